import PyProof.Rows.All
import Wide.All
import OpenK.AllK
import Wide.FinOn
import HandS.ForMost
import HandS.Walk
import HandS.Wide
import HandS.Defaults
import KE.KStateDown
import Lean
import HandS.Head0
import HandS.Head1
import HandS.Head2
import HandS.Head3
import HandS.HeadEnd
import HandS.HeadHook1
import HandS.HeadHook2
import HandS.Gcd
import HandS.Zip
import HandS.TupMul
import HandS.Style
import HandS.IsInst
import HandS.Conv
import HandS.Dict
import HandS.Ends
import PySem.Challenge.RW_slantpanes_k69_whole_far_shares_and_meet
/-! F00 -/
set_option Elab.async false
set_option linter.all false
set_option maxRecDepth 100000
set_option maxHeartbeats 4100000
namespace SP
open PySem PySem.Spec L2 PyProof.Rows
def top (i : Nat) : Stmt := PySem.Challenge.pw_slantpanes_k69_whole_far_shares_and_meet.main.body.getD i (.Pass ⟨0, 0, 0, 0⟩)
/-- what the module's names stand for -/
structure Txt (mg : Str → Option Value) : Prop where
  n_isinstance : mg "isinstance" = none
  n_bool : mg "bool" = none
  n_int : mg "int" = none
  n_tuple : mg "tuple" = none
  n_list : mg "list" = none
  n_dict : mg "dict" = none
  n_len : mg "len" = none
  n_all : mg "all" = none
  n_sum : mg "sum" = none
  n_min : mg "min" = none
  n_max : mg "max" = none
  n_abs : mg "abs" = none
  n_zip : mg "zip" = none
  n_range : mg "range" = none
  n_enumerate : mg "enumerate" = none
  n_repr : mg "repr" = none
  g_gcd : mg "gcd" = some (.builtin "math.gcd")
  g_MOST_PRIME : ∃ t, mg "MOST_PRIME" = some (.int 30 t)
  g_MOST_ROOT : ∃ t, mg "MOST_ROOT" = some (.int 1000 t)
  g_MOST_BREADTH : ∃ t, mg "MOST_BREADTH" = some (.int 3 t)
  g_MOST_STRIPES : ∃ t, mg "MOST_STRIPES" = some (.int 12 t)
  g_MEET : ∃ t, mg "MEET" = some (.str "meet" t)
  g_NEVER : ∃ t, mg "NEVER" = some (.str "never" t)
end SP
/-! HD -/
set_option Elab.async false
set_option linter.all false
set_option maxRecDepth 100000
set_option maxHeartbeats 0
namespace HD
open PySem PySem.Spec L2 PyProof.Rows SP
def d_is_integer : He.DefD := ⟨("is_integer", none), "is_integer", "is_integer", defArgs (top 12), defBody (top 12), defScope (top 12), [], []⟩
def d_are_integers : He.DefD := ⟨("are_integers", none), "are_integers", "are_integers", defArgs (top 13), defBody (top 13), defScope (top 13), [], []⟩
def d_inverse_of : He.DefD := ⟨("inverse_of", none), "inverse_of", "inverse_of", defArgs (top 14), defBody (top 14), defScope (top 14), [], []⟩
def d_joint_rest : He.DefD := ⟨("joint_rest", none), "joint_rest", "joint_rest", defArgs (top 15), defBody (top 15), defScope (top 15), [], []⟩
def d_powers_of : He.DefD := ⟨("powers_of", none), "powers_of", "powers_of", defArgs (top 16), defBody (top 16), defScope (top 16), [], []⟩
def d_is_period_number : He.DefD := ⟨("is_period_number", none), "is_period_number", "is_period_number", defArgs (top 17), defBody (top 17), defScope (top 17), [], []⟩
def d_is_cell_row : He.DefD := ⟨("is_cell_row", none), "is_cell_row", "is_cell_row", defArgs (top 18), defBody (top 18), defScope (top 18), [], []⟩
def d_is_cell_of : He.DefD := ⟨("is_cell_of", none), "is_cell_of", "is_cell_of", defArgs (top 19), defBody (top 19), defScope (top 19), [], []⟩
def d_product_at : He.DefD := ⟨("product_at", none), "product_at", "product_at", defArgs (top 20), defBody (top 20), defScope (top 20), [], []⟩
def d_cell_sum : He.DefD := ⟨("cell_sum", none), "cell_sum", "cell_sum", defArgs (top 21), defBody (top 21), defScope (top 21), [.int 1], []⟩
def d_rests_by : He.DefD := ⟨("rests_by", none), "rests_by", "rests_by", defArgs (top 22), defBody (top 22), defScope (top 22), [], []⟩
def d_is_class_row : He.DefD := ⟨("is_class_row", none), "is_class_row", "is_class_row", defArgs (top 23), defBody (top 23), defScope (top 23), [], []⟩
def d_is_stripe_row : He.DefD := ⟨("is_stripe_row", none), "is_stripe_row", "is_stripe_row", defArgs (top 24), defBody (top 24), defScope (top 24), [], []⟩
def d_unit_of : He.DefD := ⟨("unit_of", none), "unit_of", "unit_of", defArgs (top 25), defBody (top 25), defScope (top 25), [], []⟩
def d_is_heap_pair : He.DefD := ⟨("is_heap_pair", none), "is_heap_pair", "is_heap_pair", defArgs (top 27), defBody (top 27), defScope (top 27), [], []⟩
def d_is_heap_value : He.DefD := ⟨("is_heap_value", none), "is_heap_value", "is_heap_value", defArgs (top 28), defBody (top 28), defScope (top 28), [], []⟩
def d_heap_breadth : He.DefD := ⟨("heap_breadth", none), "heap_breadth", "heap_breadth", defArgs (top 29), defBody (top 29), defScope (top 29), [], []⟩
def d_joint_breadth : He.DefD := ⟨("joint_breadth", none), "joint_breadth", "joint_breadth", defArgs (top 30), defBody (top 30), defScope (top 30), [], []⟩
def d_need_heap : He.DefD := ⟨("need_heap", none), "need_heap", "need_heap", defArgs (top 31), defBody (top 31), defScope (top 31), [], []⟩
def d_need_two : He.DefD := ⟨("need_two", none), "need_two", "need_two", defArgs (top 32), defBody (top 32), defScope (top 32), [], []⟩
def d_need_stripes : He.DefD := ⟨("need_stripes", none), "need_stripes", "need_stripes", defArgs (top 34), defBody (top 34), defScope (top 34), [], []⟩
def d_lowest : He.DefD := ⟨("lowest", none), "lowest", "lowest", defArgs (top 36), defBody (top 36), defScope (top 36), [], []⟩
def d_common_factor : He.DefD := ⟨("common_factor", none), "common_factor", "common_factor", defArgs (top 37), defBody (top 37), defScope (top 37), [], []⟩
def d_share : He.DefD := ⟨("share", none), "share", "share", defArgs (top 38), defBody (top 38), defScope (top 38), [], []⟩
def d_share_of_both : He.DefD := ⟨("share_of_both", none), "share_of_both", "share_of_both", defArgs (top 39), defBody (top 39), defScope (top 39), [], []⟩
def d_sum_of : He.DefD := ⟨("sum_of", none), "sum_of", "sum_of", defArgs (top 40), defBody (top 40), defScope (top 40), [], []⟩
def d_mean_of_product : He.DefD := ⟨("mean_of_product", none), "mean_of_product", "mean_of_product", defArgs (top 41), defBody (top 41), defScope (top 41), [], []⟩
def d_mean : He.DefD := ⟨("mean", none), "mean", "mean", defArgs (top 42), defBody (top 42), defScope (top 42), [], []⟩
def d_likeness : He.DefD := ⟨("likeness", none), "likeness", "likeness", defArgs (top 43), defBody (top 43), defScope (top 43), [], []⟩
def d_unit_steps : He.DefD := ⟨("unit_steps", none), "unit_steps", "unit_steps", defArgs (top 45), defBody (top 45), defScope (top 45), [], []⟩
def d_gathered_steps : He.DefD := ⟨("gathered_steps", none), "gathered_steps", "gathered_steps", defArgs (top 46), defBody (top 46), defScope (top 46), [], []⟩
def d_narrowed : He.DefD := ⟨("narrowed", none), "narrowed", "narrowed", defArgs (top 47), defBody (top 47), defScope (top 47), [], []⟩
def d_cells_on : He.DefD := ⟨("cells_on", none), "cells_on", "cells_on", defArgs (top 48), defBody (top 48), defScope (top 48), [], []⟩
def d_common_period : He.DefD := ⟨("common_period", none), "common_period", "common_period", defArgs (top 50), defBody (top 50), defScope (top 50), [], []⟩
def d_relations_of : He.DefD := ⟨("relations_of", none), "relations_of", "relations_of", defArgs (top 51), defBody (top 51), defScope (top 51), [], []⟩
def d_bar_of : He.DefD := ⟨("bar_of", none), "bar_of", "bar_of", defArgs (top 52), defBody (top 52), defScope (top 52), [], []⟩
def d_few_that_bar : He.DefD := ⟨("few_that_bar", none), "few_that_bar", "few_that_bar", defArgs (top 53), defBody (top 53), defScope (top 53), [], []⟩
def d_bar_among : He.DefD := ⟨("bar_among", none), "bar_among", "bar_among", defArgs (top 54), defBody (top 54), defScope (top 54), [], []⟩
def d_are_stripes : He.DefD := ⟨("are_stripes", none), "are_stripes", "are_stripes", defArgs (top 59), defBody (top 59), defScope (top 59), [], []⟩
def d_need_stripe_row : He.DefD := ⟨("need_stripe_row", none), "need_stripe_row", "need_stripe_row", defArgs (top 60), defBody (top 60), defScope (top 60), [], []⟩
def d_judge_meeting : He.DefD := ⟨("judge_meeting", none), "judge_meeting", "judge_meeting", defArgs (top 61), defBody (top 61), defScope (top 61), [], []⟩
def d_do_meet : He.DefD := ⟨("do_meet", none), "do_meet", "do_meet", defArgs (top 62), defBody (top 62), defScope (top 62), [], []⟩
def d__law_deck : He.DefD := ⟨("_law_deck", none), "_law_deck", "_law_deck", defArgs (top 64), defBody (top 64), defScope (top 64), [], []⟩
def d__law_draw : He.DefD := ⟨("_law_draw", none), "_law_draw", "_law_draw", defArgs (top 65), defBody (top 65), defScope (top 65), [], []⟩
def d__law_pick : He.DefD := ⟨("_law_pick", none), "_law_pick", "_law_pick", defArgs (top 66), defBody (top 66), defScope (top 66), [], []⟩
def d__law_wide : He.DefD := ⟨("_law_wide", none), "_law_wide", "_law_wide", defArgs (top 67), defBody (top 67), defScope (top 67), [], []⟩
def d__law_common : He.DefD := ⟨("_law_common", none), "_law_common", "_law_common", defArgs (top 68), defBody (top 68), defScope (top 68), [], []⟩
def d__law_inverse : He.DefD := ⟨("_law_inverse", none), "_law_inverse", "_law_inverse", defArgs (top 69), defBody (top 69), defScope (top 69), [], []⟩
def d__law_part : He.DefD := ⟨("_law_part", none), "_law_part", "_law_part", defArgs (top 70), defBody (top 70), defScope (top 70), [], []⟩
def d__law_period : He.DefD := ⟨("_law_period", none), "_law_period", "_law_period", defArgs (top 71), defBody (top 71), defScope (top 71), [], []⟩
def d__law_unit : He.DefD := ⟨("_law_unit", none), "_law_unit", "_law_unit", defArgs (top 72), defBody (top 72), defScope (top 72), [], []⟩
def d__law_power : He.DefD := ⟨("_law_power", none), "_law_power", "_law_power", defArgs (top 73), defBody (top 73), defScope (top 73), [], []⟩
def d__law_local : He.DefD := ⟨("_law_local", none), "_law_local", "_law_local", defArgs (top 74), defBody (top 74), defScope (top 74), [], []⟩
def d__law_put : He.DefD := ⟨("_law_put", none), "_law_put", "_law_put", defArgs (top 75), defBody (top 75), defScope (top 75), [], []⟩
def d__law_pair : He.DefD := ⟨("_law_pair", none), "_law_pair", "_law_pair", defArgs (top 76), defBody (top 76), defScope (top 76), [], []⟩
def d__law_fraction : He.DefD := ⟨("_law_fraction", none), "_law_fraction", "_law_fraction", defArgs (top 77), defBody (top 77), defScope (top 77), [], []⟩
def d__law_otherwise : He.DefD := ⟨("_law_otherwise", none), "_law_otherwise", "_law_otherwise", defArgs (top 78), defBody (top 78), defScope (top 78), [], []⟩
def d__law_are_integers : He.DefD := ⟨("_law_are_integers", none), "_law_are_integers", "_law_are_integers", defArgs (top 79), defBody (top 79), defScope (top 79), [], []⟩
def d__law_is_meeting : He.DefD := ⟨("_law_is_meeting", none), "_law_is_meeting", "_law_is_meeting", defArgs (top 80), defBody (top 80), defScope (top 80), [], []⟩
def d_law : He.DefD := ⟨("law", none), "law", "law", defArgs (top 81), defBody (top 81), defScope (top 81), [], []⟩
def fn1 : List He.DefD := [d_is_integer, d_are_integers, d_inverse_of, d_joint_rest, d_powers_of, d_is_period_number, d_is_cell_row, d_is_cell_of, d_product_at, d_cell_sum, d_rests_by, d_is_class_row, d_is_stripe_row, d_unit_of, d_is_heap_pair, d_is_heap_value, d_heap_breadth, d_joint_breadth, d_need_heap, d_need_two, d_need_stripes, d_lowest, d_common_factor, d_share, d_share_of_both, d_sum_of, d_mean_of_product, d_mean, d_likeness, d_unit_steps]
def fn2 : List He.DefD := [d_gathered_steps, d_narrowed, d_cells_on, d_common_period, d_relations_of, d_bar_of, d_few_that_bar, d_bar_among, d_are_stripes, d_need_stripe_row, d_judge_meeting, d_do_meet, d__law_deck, d__law_draw, d__law_pick, d__law_wide, d__law_common, d__law_inverse, d__law_part, d__law_period, d__law_unit, d__law_power, d__law_local, d__law_put, d__law_pair, d__law_fraction, d__law_otherwise, d__law_are_integers, d__law_is_meeting, d_law]
def fn : List He.DefD := fn1 ++ fn2
def fa1 : List He.Fa := [.glo "is_integer", .glo "are_integers", .glo "inverse_of", .glo "joint_rest", .glo "powers_of", .glo "is_period_number", .glo "is_cell_row", .glo "is_cell_of", .glo "product_at", .glo "cell_sum", .glo "rests_by", .glo "is_class_row", .glo "is_stripe_row", .glo "unit_of", .glo "is_heap_pair", .glo "is_heap_value", .glo "heap_breadth", .glo "joint_breadth", .glo "need_heap", .glo "need_two", .glo "need_stripes", .glo "lowest", .glo "common_factor", .glo "share", .glo "share_of_both", .glo "sum_of", .glo "mean_of_product", .glo "mean", .glo "likeness", .glo "unit_steps"]
def fa2 : List He.Fa := [.glo "gathered_steps", .glo "narrowed", .glo "cells_on", .glo "common_period", .glo "relations_of", .glo "bar_of", .glo "few_that_bar", .glo "bar_among", .glo "are_stripes", .glo "need_stripe_row", .glo "judge_meeting", .glo "do_meet", .glo "_law_deck", .glo "_law_draw", .glo "_law_pick", .glo "_law_wide", .glo "_law_common", .glo "_law_inverse", .glo "_law_part", .glo "_law_period", .glo "_law_unit", .glo "_law_power", .glo "_law_local", .glo "_law_put", .glo "_law_pair", .glo "_law_fraction", .glo "_law_otherwise", .glo "_law_are_integers", .glo "_law_is_meeting", .glo "law"]
def fa3 : List He.Fa := [.free "isinstance", .free "bool", .free "int", .free "tuple", .free "list", .free "dict", .free "len", .free "all", .free "sum", .free "min", .free "max", .free "abs", .free "zip", .free "range", .free "enumerate", .free "repr", .int "MOST_PRIME" 30, .int "MOST_ROOT" 1000, .int "MOST_BREADTH" 3, .int "MOST_STRIPES" 12, .str "MEET" "meet", .str "NEVER" "never"]
def fa : List He.Fa := fa1 ++ (fa2 ++ fa3)
def names0 : List PySem.Str := ["PaneError", "BadStripe", "BadCell", "BadHeap", "OtherBreadth", "BadStripes", "MOST_PRIME", "MOST_ROOT", "MOST_BREADTH", "is_integer", "are_integers", "inverse_of", "joint_rest", "powers_of", "is_period_number", "is_cell_row", "is_cell_of", "product_at"]
def names1 : List PySem.Str := ["cell_sum", "rests_by", "is_class_row", "is_stripe_row", "unit_of", "is_heap_pair", "is_heap_value", "heap_breadth", "joint_breadth", "need_heap", "need_two", "need_stripes", "lowest", "common_factor", "share", "share_of_both", "sum_of", "mean_of_product"]
def names2 : List PySem.Str := ["mean", "likeness", "unit_steps", "gathered_steps", "narrowed", "cells_on", "common_period", "relations_of", "bar_of", "few_that_bar", "bar_among", "MOST_STRIPES", "MEET", "NEVER", "are_stripes", "need_stripe_row", "judge_meeting", "do_meet"]
def names3 : List PySem.Str := ["_law_deck", "_law_draw", "_law_pick", "_law_wide", "_law_common", "_law_inverse", "_law_part", "_law_period", "_law_unit", "_law_power", "_law_local", "_law_put", "_law_pair", "_law_fraction", "_law_otherwise", "_law_are_integers", "_law_is_meeting"]
def names : List PySem.Str := names0 ++ names1 ++ names2 ++ names3
abbrev R : PySem.W.OpenRow := PySem.W.OpenLaw.row PySem.Challenge.rw_slantpanes_k69_whole_far_shares_and_meet
/-- the facts of the text, and what gcd stands for -/
def gcdB (K : PySem.W.Frag) : Bool := He.eqO (PySem.W.nsIn K mainGlobals "gcd") (some (some (.builtin "math.gcd")))
abbrev AlX : Type := Bool × He.AlD
def obsX (K : PySem.W.Frag) : AlX := (gcdB K, He.obsD fa fn K)
def SaysX (K : PySem.W.Frag) : Prop := obsX K = (true, He.valD fn)
def obsXG (g : Addr → Option Obj) : AlX := obsX (He.frG g (He.asD g 4))
def hk : PySem.W.Hook where
  α := AlX
  obs := fun s => obsXG s.heap.get?
  val := fun _ => (true, He.valD fn)
  says := fun _ h => ∃ K : PySem.W.Frag, K.In h ∧ SaysX K
  of := fun _ _ e => ⟨_, He.frG_in, e⟩
  keeps := fun _ _ _ ⟨K, hK, c⟩ k => ⟨K, (PySem.W.Frag.In.keeps hK k), c⟩
def ob (s : PySem.W.SharedT) : AlX := obsXG (HandSHeadRun.getT s)
theorem ob_eq (s : PySem.W.SharedT) : ob s = hk.obs s.abs := by
  have e : HandSHeadRun.getT s = s.abs.heap.get? := funext (HandSHeadRun.getT_eq s)
  show obsXG (HandSHeadRun.getT s) = obsXG s.abs.heap.get?
  rw [e]
abbrev qv : Program := PySem.W.view R.prog [0, 81]
theorem run (w : World) : HandSHeadRun.RunEqI R qv hk ob 20000 names w := by
  unfold HandSHeadRun.RunEqI
  kernel_rfl
section
variable {h : Heap} {K : PySem.W.Frag} {mg : Str → Option Value}
theorem txt (X : K.In h) (G : h.Ns mainGlobals mg) (c : SaysX K) : Txt mg := by
  have c1 : gcdB K = true := congrArg (fun z : AlX => z.1) c
  have c2 : He.SaysD fa fn K := congrArg (fun z : AlX => z.2) c
  exact ⟨He.free_ok X G (c2.fact 60 (f := .free "isinstance") rfl),
    He.free_ok X G (c2.fact 61 (f := .free "bool") rfl),
    He.free_ok X G (c2.fact 62 (f := .free "int") rfl),
    He.free_ok X G (c2.fact 63 (f := .free "tuple") rfl),
    He.free_ok X G (c2.fact 64 (f := .free "list") rfl),
    He.free_ok X G (c2.fact 65 (f := .free "dict") rfl),
    He.free_ok X G (c2.fact 66 (f := .free "len") rfl),
    He.free_ok X G (c2.fact 67 (f := .free "all") rfl),
    He.free_ok X G (c2.fact 68 (f := .free "sum") rfl),
    He.free_ok X G (c2.fact 69 (f := .free "min") rfl),
    He.free_ok X G (c2.fact 70 (f := .free "max") rfl),
    He.free_ok X G (c2.fact 71 (f := .free "abs") rfl),
    He.free_ok X G (c2.fact 72 (f := .free "zip") rfl),
    He.free_ok X G (c2.fact 73 (f := .free "range") rfl),
    He.free_ok X G (c2.fact 74 (f := .free "enumerate") rfl),
    He.free_ok X G (c2.fact 75 (f := .free "repr") rfl),
    PySem.W.mg_of X G (He.eqO_ok c1),
    He.int_ok X G (c2.fact 76 (f := .int "MOST_PRIME" 30) rfl),
    He.int_ok X G (c2.fact 77 (f := .int "MOST_ROOT" 1000) rfl),
    He.int_ok X G (c2.fact 78 (f := .int "MOST_BREADTH" 3) rfl),
    He.int_ok X G (c2.fact 79 (f := .int "MOST_STRIPES" 12) rfl),
    He.str_ok X G (c2.fact 80 (f := .str "MEET" "meet") rfl),
    He.str_ok X G (c2.fact 81 (f := .str "NEVER" "never") rfl)⟩
theorem fat (X : K.In h) (G : h.Ns mainGlobals mg) (c : SaysX K) (i : Nat) {d : He.DefD} (hd : fn[i]? = some d) (hg : fa[i]? = some (.glo d.at_.1)) (hn : d.at_.2 = none) : ∃ f fd, FunD K d.name d.qual d.params d.body d.scope (d.dvs K) (d.kws K) f fd ∧ mg d.at_.1 = some (.ref f) := by
  have c2 : He.SaysD fa fn K := congrArg (fun z : AlX => z.2) c
  obtain ⟨fd, F⟩ := c2.def_ i hd
  refine ⟨_, fd, F, ?_⟩
  have e : He.fAd K d.at_ = He.ga K d.at_.1 := by
    obtain ⟨⟨a, b⟩, _⟩ := d
    have hb : b = none := hn
    subst hb
    rfl
  rw [e]
  exact He.glo_ok X G (c2.fact i hg)
end
end HD
/-! M1 -/
set_option Elab.async false
set_option linter.all false
set_option maxHeartbeats 2100000
/-! plain arithmetic: Bezout, coprime numbers, the extended Euclid of inverse_of -/
namespace NT
theorem bez_nat (a b : Nat) : ∃ x y : Int, (a : Int) * x + (b : Int) * y = ((Nat.gcd a b : Nat) : Int) := by
  induction a, b using Nat.gcd.induction with
  | H0 n => exact ⟨0, 1, by simp⟩
  | H1 m n hm ih =>
    obtain ⟨x, y, h⟩ := ih
    rw [Nat.gcd_rec m n]
    refine ⟨y - x * ((n / m : Nat) : Int), x, ?_⟩
    rw [← h]
    have e : ((n % m : Nat) : Int) = (n : Int) - (m : Int) * ((n / m : Nat) : Int) := by
      have := Nat.mod_add_div n m
      have h2 : ((n % m : Nat) : Int) + (m : Int) * ((n / m : Nat) : Int) = (n : Int) := by exact_mod_cast this
      omega
    rw [e]
    grind
theorem natAbs_mul_sign (a : Int) : ∃ s : Int, ((a.natAbs : Nat) : Int) = a * s := by
  rcases Int.natAbs_eq a with h | h
  · exact ⟨1, by omega⟩
  · exact ⟨-1, by omega⟩
/-- the greatest common divisor as an int -/
abbrev gcd (a b : Int) : Int := ((Nat.gcd a.natAbs b.natAbs : Nat) : Int)
theorem bez (a b : Int) : ∃ x y : Int, a * x + b * y = gcd a b := by
  obtain ⟨x, y, h⟩ := bez_nat a.natAbs b.natAbs
  obtain ⟨s, hs⟩ := natAbs_mul_sign a
  obtain ⟨t, ht⟩ := natAbs_mul_sign b
  refine ⟨s * x, t * y, ?_⟩
  show _ = ((Nat.gcd a.natAbs b.natAbs : Nat) : Int)
  rw [← h, hs, ht]
  grind
theorem gcd_dl (a b : Int) : gcd a b ∣ a := Int.natAbs_dvd_natAbs.mp (by show (Int.natAbs ((Nat.gcd a.natAbs b.natAbs : Nat) : Int)) ∣ _; rw [Int.natAbs_natCast]; exact Nat.gcd_dvd_left ..)
theorem gcd_dr (a b : Int) : gcd a b ∣ b := Int.natAbs_dvd_natAbs.mp (by show (Int.natAbs ((Nat.gcd a.natAbs b.natAbs : Nat) : Int)) ∣ _; rw [Int.natAbs_natCast]; exact Nat.gcd_dvd_right ..)
theorem dvd_comb {m a b : Int} (x y : Int) (h1 : m ∣ a) (h2 : m ∣ b) : m ∣ a * x + b * y := by
  obtain ⟨u, rfl⟩ := h1
  obtain ⟨v, rfl⟩ := h2
  exact ⟨u * x + v * y, by grind⟩
theorem dvd_gcd {m a b : Int} (h1 : m ∣ a) (h2 : m ∣ b) : m ∣ gcd a b := by
  obtain ⟨x, y, h⟩ := bez a b
  rw [← h]; exact dvd_comb x y h1 h2
theorem gcd_nn (a b : Int) : 0 ≤ gcd a b := Int.natCast_nonneg _
theorem gcd_pos {a b : Int} (h : b ≠ 0) : 0 < gcd a b := by
  have : 0 < Nat.gcd a.natAbs b.natAbs := Nat.gcd_pos_of_pos_right _ (by omega)
  show (0 : Int) < ((Nat.gcd a.natAbs b.natAbs : Nat) : Int)
  omega
def Cop (a b : Int) : Prop := ∃ x y : Int, a * x + b * y = 1
theorem Cop.of_gcd {a b : Int} (h : gcd a b = 1) : Cop a b := by
  obtain ⟨x, y, e⟩ := bez a b
  exact ⟨x, y, e.trans h⟩
theorem Cop.symm {a b : Int} (h : Cop a b) : Cop b a := by
  obtain ⟨x, y, e⟩ := h
  exact ⟨y, x, by grind⟩
theorem Cop.dvd_one {a b d : Int} (h : Cop a b) (h1 : d ∣ a) (h2 : d ∣ b) : d ∣ 1 := by
  obtain ⟨x, y, e⟩ := h
  rw [← e]; exact dvd_comb x y h1 h2
theorem dvd_one {d : Int} (h : d ∣ 1) (h0 : 0 ≤ d) : d = 1 := Int.eq_one_of_dvd_one h0 h
theorem Cop.gcd {a b : Int} (h : Cop a b) : NT.gcd a b = 1 := NT.dvd_one (h.dvd_one (gcd_dl a b) (gcd_dr a b)) (gcd_nn a b)
theorem Cop.dvd {m a b : Int} (h : Cop m a) (hd : m ∣ a * b) : m ∣ b := by
  obtain ⟨x, y, e⟩ := h
  obtain ⟨u, hu⟩ := hd
  refine ⟨x * b + u * y, ?_⟩
  have : b = (m * x + a * y) * b := by rw [e]; grind
  rw [this]
  grind
theorem Cop.mul_dvd {m n a : Int} (h : Cop m n) (h1 : m ∣ a) (h2 : n ∣ a) : m * n ∣ a := by
  obtain ⟨x, y, e⟩ := h
  obtain ⟨u, hu⟩ := h1
  obtain ⟨v, hv⟩ := h2
  refine ⟨x * v + y * u, ?_⟩
  have : a = (m * x + n * y) * a := by rw [e]; grind
  rw [this]
  grind
theorem Cop.mul_right {a b c : Int} (h1 : Cop a b) (h2 : Cop a c) : Cop a (b * c) := by
  obtain ⟨x, y, e⟩ := h1
  obtain ⟨u, v, f⟩ := h2
  refine ⟨x + b * y * u, y * v, ?_⟩
  have : a * (x + b * y * u) + b * c * (y * v) = a * x + b * y * (a * u + c * v) := by grind
  rw [this, f]; grind
theorem Cop.mul_left {a b c : Int} (h1 : Cop a c) (h2 : Cop b c) : Cop (a * b) c := (Cop.mul_right h1.symm h2.symm).symm
theorem Cop.one_right {a : Int} : Cop a 1 := ⟨0, 1, by omega⟩
theorem Cop.one_left {a : Int} : Cop 1 a := ⟨1, 0, by omega⟩
theorem Cop.pow_right {a b : Int} (h : Cop a b) : ∀ n : Nat, Cop a (b ^ n)
  | 0 => by rw [Int.pow_zero]; exact .one_right
  | n + 1 => by rw [Int.pow_succ]; exact (Cop.pow_right h n).mul_right h
theorem Cop.pow {a b : Int} (h : Cop a b) (m n : Nat) : Cop (a ^ m) (b ^ n) := (Cop.pow_right (Cop.pow_right h n).symm m).symm
theorem Cop.of_dvd_left {a b c : Int} (h : Cop a b) (d : c ∣ a) : Cop c b := by
  obtain ⟨x, y, e⟩ := h
  obtain ⟨u, rfl⟩ := d
  exact ⟨u * x, y, by rw [← e]; grind⟩
theorem Cop.of_dvd_right {a b c : Int} (h : Cop a b) (d : c ∣ b) : Cop a c := (h.symm.of_dvd_left d).symm
/-- b may be changed by a multiple of a -/
theorem Cop.congr {a b c : Int} (h : Cop a b) (d : a ∣ b - c) : Cop a c := by
  obtain ⟨x, y, e⟩ := h
  obtain ⟨u, hu⟩ := d
  exact ⟨x + u * y, y, by rw [← e]; grind⟩
theorem dvd_trans {a b c : Int} (h1 : a ∣ b) (h2 : b ∣ c) : a ∣ c := Int.dvd_trans h1 h2
theorem dvd_sub_trans {m a b c : Int} (h1 : m ∣ a - b) (h2 : m ∣ b - c) : m ∣ a - c := by
  have : a - c = (a - b) + (b - c) := by omega
  rw [this]; exact Int.dvd_add h1 h2
theorem dvd_sub_comm {m a b : Int} (h : m ∣ a - b) : m ∣ b - a := by
  have : b - a = -(a - b) := by omega
  rw [this]; exact (Int.dvd_neg).mpr h
theorem mod_dvd (a m : Int) : m ∣ a - a % m := Int.dvd_self_sub_emod
theorem mod_dvd' (a m : Int) : m ∣ a % m - a := dvd_sub_comm (mod_dvd a m)
theorem mod_eq_zero {a m : Int} : a % m = 0 ↔ m ∣ a := ⟨Int.dvd_of_emod_eq_zero, Int.emod_eq_zero_of_dvd⟩
theorem mod_of {a b m : Int} (h : m ∣ a - b) (h0 : 0 ≤ b) (h1 : b < m) : a % m = b := by
  obtain ⟨u, hu⟩ := h
  have : a = b + m * u := by omega
  rw [this, Int.add_mul_emod_self_left, Int.emod_eq_of_lt h0 h1]
theorem mod_eq {a b m : Int} (h : m ∣ a - b) : a % m = b % m := by
  obtain ⟨u, hu⟩ := h
  have : a = b + m * u := by omega
  rw [this, Int.add_mul_emod_self_left]
theorem eq_of_mod {a b m : Int} (h : m ∣ a - b) (ha : 0 ≤ a) (ha1 : a < m) (hb : 0 ≤ b) (hb1 : b < m) : a = b := by
  have h1 := mod_of h hb hb1
  rw [Int.emod_eq_of_lt ha ha1] at h1
  exact h1

/-! ### the loop of inverse_of -/
structure EInv (a m one other l r : Int) : Prop where
  o0 : 0 ≤ other
  o1 : other < one
  om : one ≤ m
  e1 : m ∣ a * l - one
  e2 : m ∣ a * r - other
  g : ∀ d, d ∣ one → d ∣ other → d ∣ m ∧ d ∣ a
  sz : (l.natAbs : Int) * other + (r.natAbs : Int) * one ≤ m
theorem einv_start {a m : Int} (hm : 0 < m) : EInv a m m (a % m) 0 1 where
  o0 := Int.emod_nonneg _ (by omega)
  o1 := Int.emod_lt_of_pos _ hm
  om := Int.le_refl _
  e1 := ⟨-1, by grind⟩
  e2 := by have := mod_dvd a m; have e : a * 1 - a % m = a - a % m := by omega
           rw [e]; exact this
  g := fun d h1 h2 => ⟨h1, by
    have h3 := Int.dvd_trans h1 (mod_dvd a m)
    have e : a = (a - a % m) + a % m := by omega
    rw [e]; exact Int.dvd_add h3 h2⟩
  sz := by simp
theorem einv_step {a m one other l r : Int} (h : EInv a m one other l r) (hz : other ≠ 0) :
    EInv a m other (one - one / other * other) r (l - one / other * r) := by
  have h0 : 0 < other := by have := h.o0; omega
  have hq : one / other * other + one % other = one := by
    have := Int.mul_ediv_add_emod one other
    rw [Int.mul_comm] at this; exact this
  have e : one - one / other * other = one % other := by omega
  have hq0 : 0 ≤ one / other := Int.ediv_nonneg (by have := h.o1; omega) (by omega)
  refine ⟨?_, ?_, ?_, h.e2, ?_, fun d h1 h2 => ?_, ?_⟩
  · rw [e]; exact Int.emod_nonneg _ hz
  · rw [e]; exact Int.emod_lt_of_pos _ h0
  · have := h.o1; have := h.om; omega
  · obtain ⟨u, hu⟩ := h.e1
    obtain ⟨v, hv⟩ := h.e2
    exact ⟨u - one / other * v, by grind⟩
  · refine h.g d ?_ h1
    have : one = (one - one / other * other) + one / other * other := by omega
    rw [this]
    exact Int.dvd_add h2 (Int.dvd_mul_of_dvd_right h1)
  · have hn : ((l - one / other * r).natAbs : Int) ≤ (l.natAbs : Int) + one / other * (r.natAbs : Int) := by
      have h1 : (l - one / other * r).natAbs ≤ l.natAbs + (one / other * r).natAbs := Int.natAbs_sub_le _ _
      have h2 : (((one / other * r).natAbs : Nat) : Int) = one / other * (r.natAbs : Int) := by
        rw [Int.natAbs_mul, Int.natCast_mul]
        rw [Int.natAbs_of_nonneg hq0]
      omega
    have h3 : ((l - one / other * r).natAbs : Int) * other ≤ ((l.natAbs : Int) + one / other * (r.natAbs : Int)) * other := Int.mul_le_mul_of_nonneg_right hn (by omega)
    have h4 := h.sz
    have e3 : (r.natAbs : Int) * (one - one / other * other) + ((l.natAbs : Int) + one / other * (r.natAbs : Int)) * other = (l.natAbs : Int) * other + (r.natAbs : Int) * one := by grind
    omega
theorem einv_size {a m one other l r : Int} (h : EInv a m one other l r) : (r.natAbs : Int) ≤ m := by
  have h1 := h.sz
  have h2 := h.o0
  have h3 := h.o1
  have h4 : 0 ≤ (l.natAbs : Int) * other := Int.mul_nonneg (by omega) h2
  have h5 : (r.natAbs : Int) * 1 ≤ (r.natAbs : Int) * one := Int.mul_le_mul_of_nonneg_left (by omega) (by omega)
  omega
theorem einv_end {a m one l r : Int} (h : EInv a m one 0 l r) (hm : 0 < m) (hc : Cop a m) : m ∣ a * (l % m) - 1 := by
  have hd : one ∣ 1 := by
    obtain ⟨h1, h2⟩ := h.g one (Int.dvd_refl _) (Int.dvd_zero _)
    exact hc.dvd_one h2 h1
  have h1 : one = 1 := dvd_one hd (by have := h.o1; omega)
  have e := h.e1
  rw [h1] at e
  obtain ⟨u, hu⟩ := e
  obtain ⟨v, hv⟩ := mod_dvd' l m
  exact ⟨u + a * v, by grind⟩
end NT
/-! M2 -/
set_option Elab.async false
set_option linter.all false
set_option maxHeartbeats 2100000
set_option maxRecDepth 10000
/-! the ten primes, products of their powers -/
namespace NT
def PL : List Nat := [2, 3, 5, 7, 11, 13, 17, 19, 23, 29]
theorem PL_two {p : Nat} (h : p ∈ PL) : 2 ≤ p ∧ p ≤ 29 := by
  have : ∀ p ∈ PL, 2 ≤ p ∧ p ≤ 29 := by decide
  exact this p h
theorem PL_div : ∀ p ∈ PL, ∀ d, d ≤ 29 → d ∣ p → d = 1 ∨ d = p := by decide
theorem PL_nodup : PL.Nodup := by decide
theorem prime_or {p : Nat} (h : p ∈ PL) (a : Int) : Cop (p : Int) a ∨ (p : Int) ∣ a := by
  have hd : Nat.gcd p a.natAbs ∣ p := Nat.gcd_dvd_left ..
  have hp := PL_two h
  rcases PL_div p h _ (Nat.le_trans (Nat.le_of_dvd (by omega) hd) hp.2) hd with e | e
  · exact .inl (Cop.of_gcd (by show ((Nat.gcd ((p : Int)).natAbs a.natAbs : Nat) : Int) = 1; rw [Int.natAbs_natCast, e]; rfl))
  · refine .inr (Int.natAbs_dvd_natAbs.mp ?_)
    rw [Int.natAbs_natCast]
    rw [← e]
    exact Nat.gcd_dvd_right ..
theorem not_cop {p : Nat} (h : p ∈ PL) {a : Int} (hc : Cop (p : Int) a) : ¬ (p : Int) ∣ a := fun hd => by
  have h1 := dvd_one (hc.dvd_one (Int.dvd_refl _) hd) (by omega)
  have := PL_two h
  omega
theorem prime_cop {p q : Nat} (hp : p ∈ PL) (hq : q ∈ PL) (hn : p ≠ q) : Cop (p : Int) (q : Int) := by
  rcases prime_or hp (q : Int) with h | h
  · exact h
  · have h' : p ∣ q := Int.natCast_dvd_natCast.mp h
    have hp2 := PL_two hp
    rcases PL_div q hq p (by omega) h' with e | e
    · omega
    · exact absurd e hn
theorem prime_mul {p : Nat} (h : p ∈ PL) {a b : Int} (hd : (p : Int) ∣ a * b) : (p : Int) ∣ a ∨ (p : Int) ∣ b := by
  rcases prime_or h a with hc | hc
  · exact .inr (hc.dvd hd)
  · exact .inl hc
def pr (e : Nat → Nat) (L : List Nat) : Int := (L.map fun p : Nat => (p : Int) ^ (e p)).prod
theorem pr_nil (e : Nat → Nat) : pr e [] = 1 := rfl
theorem pr_cons (e : Nat → Nat) (p : Nat) (L : List Nat) : pr e (p :: L) = (p : Int) ^ (e p) * pr e L := by simp [pr]
theorem pow_pos {p : Nat} (h : 0 < p) (n : Nat) : 0 < (p : Int) ^ n := by
  rw [← Int.natCast_pow]
  have := Nat.pow_pos (n := n) h
  omega
theorem pr_pos (e : Nat → Nat) : ∀ {L : List Nat}, (∀ p ∈ L, p ∈ PL) → 0 < pr e L
  | [], _ => by rw [pr_nil]; omega
  | p :: L, h => by
    rw [pr_cons]
    exact Int.mul_pos (pow_pos (by have := PL_two (h p List.mem_cons_self); omega) _) (pr_pos e fun q hq => h q (List.mem_cons_of_mem _ hq))
theorem pr_cop (e : Nat → Nat) {p : Nat} (hp : p ∈ PL) : ∀ {L : List Nat}, (∀ q ∈ L, q ∈ PL) → p ∉ L → Cop (p : Int) (pr e L)
  | [], _, _ => by rw [pr_nil]; exact .one_right
  | q :: L, h, hn => by
    rw [pr_cons]
    refine Cop.mul_right (Cop.pow_right (prime_cop hp (h q List.mem_cons_self) fun z => hn (by simp [z])) _) ?_
    exact pr_cop e hp (fun r hr => h r (List.mem_cons_of_mem _ hr)) fun z => hn (List.mem_cons_of_mem _ z)
theorem pr_congr {e f : Nat → Nat} : ∀ {L : List Nat}, (∀ p ∈ L, e p = f p) → pr e L = pr f L
  | [], _ => rfl
  | p :: L, h => by rw [pr_cons, pr_cons, h p List.mem_cons_self, pr_congr fun q hq => h q (List.mem_cons_of_mem _ hq)]
theorem pow_dvd {p : Int} {m n : Nat} (h : m ≤ n) : p ^ m ∣ p ^ n := by
  obtain ⟨k, rfl⟩ := Nat.le.dest h
  rw [Int.pow_add]; exact Int.dvd_mul_right ..
theorem pr_dvd {e f : Nat → Nat} : ∀ {L : List Nat}, (∀ p ∈ L, e p ≤ f p) → pr e L ∣ pr f L
  | [], _ => Int.dvd_refl _
  | p :: L, h => by
    rw [pr_cons, pr_cons]
    exact Int.mul_dvd_mul (pow_dvd (h p List.mem_cons_self)) (pr_dvd fun q hq => h q (List.mem_cons_of_mem _ hq))
theorem pow_dvd_pr (e : Nat → Nat) : ∀ {L : List Nat} {p : Nat}, p ∈ L → (p : Int) ^ (e p) ∣ pr e L
  | q :: L, p, h => by
    rw [pr_cons]
    rcases List.mem_cons.mp h with (z | z)
    · subst z; exact Int.dvd_mul_right ..
    · exact Int.dvd_mul_of_dvd_right (pow_dvd_pr e z)
/-- local to global -/
theorem pr_dvd_of (e : Nat → Nat) {x : Int} : ∀ {L : List Nat}, (∀ p ∈ L, p ∈ PL) → L.Nodup → (∀ p ∈ L, (p : Int) ^ (e p) ∣ x) → pr e L ∣ x
  | [], _, _, _ => by rw [pr_nil]; exact Int.one_dvd _
  | p :: L, h, nd, hx => by
    rw [pr_cons]
    obtain ⟨n1, n2⟩ : _ ∧ _ := List.nodup_cons.mp nd
    have c := pr_cop e (h p List.mem_cons_self) (fun q hq => h q (List.mem_cons_of_mem _ hq)) n1
    exact (Cop.symm (Cop.pow_right c.symm _)).mul_dvd (hx p List.mem_cons_self) (pr_dvd_of e (fun q hq => h q (List.mem_cons_of_mem _ hq)) n2 fun q hq => hx q (List.mem_cons_of_mem _ hq))
/-- a power of p that divides the product divides its part -/
theorem pow_part (e : Nat → Nat) {p : Nat} (hp : p ∈ PL) {j : Nat} (h : (p : Int) ^ j ∣ pr e PL) : j ≤ e p := by
  have key : ∀ {L : List Nat}, (∀ q ∈ L, q ∈ PL) → L.Nodup → (p : Int) ^ j ∣ pr e L → p ∈ L → j ≤ e p := by
    intro L
    induction L with
    | nil => intro _ _ _ hm; cases hm
    | cons q L ih =>
      intro hL nd hd hm
      rw [pr_cons] at hd
      obtain ⟨n1, n2⟩ : _ ∧ _ := List.nodup_cons.mp nd
      by_cases hq : q = p
      · subst hq
        have c := pr_cop e (hL q List.mem_cons_self) (fun r hr => hL r (List.mem_cons_of_mem _ hr)) n1
        rw [Int.mul_comm] at hd
        have hd2 := (Cop.symm (Cop.pow_right c.symm j)).dvd hd
        rw [← Int.natCast_pow, ← Int.natCast_pow] at hd2
        exact (Nat.pow_dvd_pow_iff_le_right (by have := PL_two hp; omega)).mp (Int.natCast_dvd_natCast.mp hd2)
      · rcases List.mem_cons.mp hm with z | z
        · exact absurd z.symm hq
        · refine ih (fun r hr => hL r (List.mem_cons_of_mem _ hr)) n2 ?_ z
          have c : Cop ((p : Int) ^ j) ((q : Int) ^ (e q)) := Cop.pow (prime_cop hp (hL q List.mem_cons_self) (Ne.symm hq)) _ _
          exact c.dvd hd
  exact key (fun q h => h) PL_nodup h hp
/-- the exponents of what is left at k -/
def ge (k : Nat) : List Nat := PL.filter fun p => decide (k ≤ p)
def ex (e : Nat → Nat) (k : Nat) : Nat := if k ∈ PL then e k else 0
theorem ge_sub {k p : Nat} (h : p ∈ ge k) : p ∈ PL := (List.mem_filter.mp h).1
theorem ge_le {k p : Nat} (h : p ∈ ge k) : k ≤ p := of_decide_eq_true (List.mem_filter.mp h).2
theorem ge_step (k : Nat) (hk : k < 30) : ge k = (if k ∈ PL then [k] else []) ++ ge (k + 1) := by
  have : ∀ k, k < 30 → ge k = (if k ∈ PL then [k] else []) ++ ge (k + 1) := by decide
  exact this k hk
theorem ge_end : ge 30 = [] := by decide
theorem ge_start : ge 2 = PL := by decide
theorem pr_step (e : Nat → Nat) (k : Nat) (hk : k < 30) : pr e (ge k) = (k : Int) ^ ex e k * pr e (ge (k + 1)) := by
  rw [ge_step k hk]
  unfold ex
  split
  · show pr e (k :: ge (k + 1)) = _
    rw [pr_cons]
  · show pr e (ge (k + 1)) = _
    rw [Int.pow_zero, Int.one_mul]
/-- k, prime or not, doesn't divide what is left behind it -/
theorem small_factor : ∀ k, k < 30 → 2 ≤ k → ∃ r, r ∈ PL ∧ r ∣ k ∧ r ≤ k := by decide
theorem not_left (e : Nat → Nat) {k : Nat} (h2 : 2 ≤ k) (hk : k < 30) : ¬ (k : Int) ∣ pr e (ge (k + 1)) := fun hd => by
  obtain ⟨r, hr, hrk, hle⟩ := small_factor k hk h2
  have c : Cop (r : Int) (pr e (ge (k + 1))) := pr_cop e hr (fun q hq => ge_sub hq) fun z => by have := ge_le z; omega
  exact not_cop hr c (Int.dvd_trans (Int.natCast_dvd_natCast.mpr hrk) hd)
theorem pr_one (e : Nat → Nat) : ∀ {L : List Nat}, (∀ p ∈ L, p ∈ PL) → pr e L = 1 → ∀ p ∈ L, e p = 0
  | [], _, _, _, hm => by cases hm
  | p :: L, h, h1, q, hm => by
    rw [pr_cons] at h1
    have h0 := pr_pos e (L := L) fun r hr => h r (List.mem_cons_of_mem _ hr)
    have hp := PL_two (h p List.mem_cons_self)
    have hpp := pow_pos (p := p) (by omega) (e p)
    have hL : pr e L = 1 := by
      have : pr e L ∣ 1 := ⟨(p : Int) ^ e p, by rw [Int.mul_comm]; omega⟩
      exact dvd_one this (by omega)
    rcases List.mem_cons.mp hm with z | z
    · subst z
      rw [hL, Int.mul_one] at h1
      cases he : e q with
      | zero => rfl
      | succ n =>
        rw [he] at h1
        rw [← Int.natCast_pow] at h1
        have : q ^ (n + 1) = 1 := by omega
        have h3 : 1 < q ^ (n + 1) := Nat.one_lt_pow (by omega) (by omega)
        omega
    · exact pr_one e (fun r hr => h r (List.mem_cons_of_mem _ hr)) hL q z
/-- the list that powers_of makes -/
def lt (k : Nat) : List Nat := PL.filter fun p => decide (p < k)
def facs (e : Nat → Nat) (L : List Nat) : List (Int × Int) := (L.filter fun p => decide (0 < e p)).map fun p : Nat => ((p : Int), (p : Int) ^ e p)
theorem lt_step (k : Nat) (hk : k < 30) : lt (k + 1) = lt k ++ (if k ∈ PL then [k] else []) := by
  have : ∀ k, k < 30 → lt (k + 1) = lt k ++ (if k ∈ PL then [k] else []) := by decide
  exact this k hk
theorem lt_ge (k : Nat) (hk : k ≤ 30) : lt k ++ ge k = PL := by
  have : ∀ k, k < 31 → lt k ++ ge k = PL := by decide
  exact this k (by omega)
theorem facs_app (e : Nat → Nat) (L M : List Nat) : facs e (L ++ M) = facs e L ++ facs e M := by simp [facs]
theorem facs_none (e : Nat → Nat) {L : List Nat} (h : ∀ p ∈ L, e p = 0) : facs e L = [] := by
  unfold facs
  rw [List.map_eq_nil_iff, List.filter_eq_nil_iff]
  intro p hp
  simp [h p hp]
theorem facs_step (e : Nat → Nat) (k : Nat) (hk : k < 30) (h2 : 2 ≤ k) : facs e (lt (k + 1)) = facs e (lt k) ++ (if 1 < (k : Int) ^ ex e k then [((k : Int), (k : Int) ^ ex e k)] else []) := by
  rw [lt_step k hk, facs_app]
  congr 1
  unfold ex
  by_cases hm : k ∈ PL
  · rw [if_pos hm, if_pos hm]
    by_cases h0 : 0 < e k
    · have : 1 < (k : Int) ^ e k := by
        rw [← Int.natCast_pow]
        have := Nat.one_lt_pow (a := k) (n := e k) (by omega) (by omega)
        omega
      rw [if_pos this]
      simp [facs, h0]
    · have h00 : e k = 0 := by omega
      rw [h00, Int.pow_zero]
      simp [facs, h00]
  · rw [if_neg hm, if_neg hm, Int.pow_zero]
    simp [facs]
/-- the product of the primes -/
def rad (e : Nat → Nat) (L : List Nat) : Int := (L.map fun p : Nat => if 0 < e p then (p : Int) else 1).prod
theorem prod_app : ∀ (a b : List Int), (a ++ b).prod = a.prod * b.prod
  | [], b => by simp
  | x :: a, b => by rw [List.cons_append, List.prod_cons, List.prod_cons, prod_app a b, Int.mul_assoc]
theorem rad_app (e : Nat → Nat) (L M : List Nat) : rad e (L ++ M) = rad e L * rad e M := by
  unfold rad
  rw [List.map_append, prod_app]
theorem rad_pos (e : Nat → Nat) : ∀ {L : List Nat}, (∀ p ∈ L, p ∈ PL) → 0 < rad e L
  | [], _ => by simp [rad]
  | p :: L, h => by
    have ih := rad_pos e (L := L) fun q hq => h q (List.mem_cons_of_mem _ hq)
    have e1 : rad e (p :: L) = (if 0 < e p then (p : Int) else 1) * rad e L := by simp [rad]
    rw [e1]
    refine Int.mul_pos ?_ ih
    have := PL_two (h p List.mem_cons_self)
    split <;> omega
theorem rad_step (e : Nat → Nat) (k : Nat) (hk : k < 30) : rad e (lt (k + 1)) = rad e (lt k) * (if 0 < ex e k then (k : Int) else 1) := by
  rw [lt_step k hk, rad_app]
  congr 1
  unfold ex
  split
  · simp [rad]
  · simp [rad]
end NT
/-! M3 -/
set_option Elab.async false
set_option linter.all false
set_option maxHeartbeats 2100000
set_option maxRecDepth 10000
/-! joint_rest, rows -/
namespace NT
def pm (ps : List (Int × Int)) : Int := (ps.map (·.2)).prod
theorem pm_cons (p : Int × Int) (ps : List (Int × Int)) : pm (p :: ps) = p.2 * pm ps := by simp [pm]
def CopL : Int → List (Int × Int) → Prop
  | _, [] => True
  | A, p :: ps => 0 < p.2 ∧ Cop A p.2 ∧ CopL (A * p.2) ps
theorem CopL.pos : ∀ {ps : List (Int × Int)} {A : Int}, CopL A ps → 0 < pm ps
  | [], _, _ => by simp [pm]
  | p :: ps, A, h => by rw [pm_cons]; exact Int.mul_pos h.1 (CopL.pos h.2.2)
theorem jr_step {a A m rest inv : Int} (ha : 0 ≤ a) (haA : a < A) (hm : 0 < m) (hi : m ∣ A * inv - 1) :
    0 ≤ a + A * ((rest - a) * inv % m) ∧ a + A * ((rest - a) * inv % m) < A * m ∧ A ∣ a + A * ((rest - a) * inv % m) - a ∧ m ∣ a + A * ((rest - a) * inv % m) - rest := by
  have h0 := Int.emod_nonneg ((rest - a) * inv) (by omega : m ≠ 0)
  have h1 := Int.emod_lt_of_pos ((rest - a) * inv) hm
  have hA : 0 < A := by omega
  refine ⟨?_, ?_, ⟨(rest - a) * inv % m, by omega⟩, ?_⟩
  · have := Int.mul_nonneg (Int.le_of_lt hA) h0; omega
  · have : A * ((rest - a) * inv % m) ≤ A * (m - 1) := Int.mul_le_mul_of_nonneg_left (by omega) (by omega)
    have e : A * (m - 1) = A * m - A := by grind
    omega
  · obtain ⟨u, hu⟩ := mod_dvd ((rest - a) * inv) m
    obtain ⟨v, hv⟩ := hi
    refine ⟨v * (rest - a) - A * u, ?_⟩
    have e1 : (rest - a) * inv % m = (rest - a) * inv - m * u := by omega
    rw [e1]
    have e2 : a + A * ((rest - a) * inv - m * u) - rest = (A * inv - 1) * (rest - a) - A * (m * u) := by grind
    rw [e2, hv]; grind
def gcdL : Int → List Int → Int
  | m, [] => m
  | m, x :: xs => gcdL (gcd m x) xs
/-- nothing but 1 divides m and the row -/
def Uni (m : Int) (c : List Int) : Prop := ∀ d : Int, d ∣ m → (∀ x ∈ c, d ∣ x) → d ∣ 1
theorem gcdL_dvd : ∀ {c : List Int} {m : Int}, gcdL m c ∣ m ∧ ∀ x ∈ c, gcdL m c ∣ x
  | [], m => ⟨Int.dvd_refl _, fun x h => by cases h⟩
  | y :: c, m => by
    obtain ⟨h1, h2⟩ := gcdL_dvd (c := c) (m := gcd m y)
    refine ⟨Int.dvd_trans h1 (gcd_dl m y), fun x hx => ?_⟩
    rcases List.mem_cons.mp hx with e | e
    · subst e; exact Int.dvd_trans h1 (gcd_dr m x)
    · exact h2 x e
theorem gcdL_nn : ∀ {c : List Int} {m : Int}, 0 ≤ m → 0 ≤ gcdL m c
  | [], m, h => h
  | y :: c, m, _ => gcdL_nn (c := c) (gcd_nn m y)
theorem Uni.gcdL {m : Int} {c : List Int} (h : Uni m c) (h0 : 0 ≤ m) : gcdL m c = 1 := dvd_one (h _ gcdL_dvd.1 gcdL_dvd.2) (gcdL_nn h0)
/-- Bezout over a row -/
theorem gcdL_bez : ∀ (c : List Int) (m : Int), ∃ (z : Int) (l : List Int), l.length = c.length ∧ m * z + ((l.zip c).map fun p => p.1 * p.2).sum = NT.gcdL m c
  | [], m => ⟨1, [], rfl, by simp [NT.gcdL]⟩
  | y :: c, m => by
    obtain ⟨z, l, h1, h2⟩ := gcdL_bez c (gcd m y)
    obtain ⟨u, v, h3⟩ := bez m y
    refine ⟨u * z, (v * z) :: l, by simp [h1], ?_⟩
    show _ = NT.gcdL (gcd m y) c
    rw [← h2, ← h3]
    simp only [List.zip_cons_cons, List.map_cons, List.sum_cons]
    grind
/-- a number that is not divisible by p stands in the row -/
theorem Uni.unit {m : Int} {c : List Int} (h : Uni m c) {p : Nat} (hp : p ∈ PL) (hm : (p : Int) ∣ m) : ∃ x ∈ c, ¬ (p : Int) ∣ x := by
  apply Classical.byContradiction
  intro hn
  have h1 : (p : Int) ∣ 1 := h p hm fun x hx => Classical.byContradiction fun z => hn ⟨x, hx, z⟩
  have h2 := dvd_one h1 (by omega)
  have := PL_two hp
  omega
theorem first_split {P : Int → Prop} : ∀ {c : List Int}, (∃ x ∈ c, ¬ P x) → ∃ a x b, c = a ++ x :: b ∧ (∀ y ∈ a, P y) ∧ ¬ P x
  | [], ⟨x, h, _⟩ => by cases h
  | y :: c, ⟨x, h, hn⟩ => by
    by_cases hy : P y
    · rcases List.mem_cons.mp h with e | e
      · subst e; exact absurd hy hn
      · obtain ⟨a, z, b, e1, e2, e3⟩ := first_split ⟨x, e, hn⟩
        refine ⟨y :: a, z, b, by rw [e1]; rfl, fun w hw => ?_, e3⟩
        rcases List.mem_cons.mp hw with e | e
        · subst e; exact hy
        · exact e2 w e
    · exact ⟨[], y, c, rfl, (fun w hw => by cases hw), hy⟩
/-- one prime's power alone -/
def only (p j : Nat) : Nat → Nat := fun q => if q = p then j else 0
theorem pr_only {p j : Nat} : ∀ {L : List Nat}, L.Nodup → pr (only p j) L = if p ∈ L then (p : Int) ^ j else 1
  | [], _ => rfl
  | q :: L, nd => by
    obtain ⟨n1, n2⟩ : _ ∧ _ := List.nodup_cons.mp nd
    rw [pr_cons, pr_only n2]
    unfold only
    by_cases h : q = p
    · subst h; rw [if_pos rfl, if_neg n1, if_pos List.mem_cons_self, Int.mul_one]
    · rw [if_neg h, Int.pow_zero, Int.one_mul]
      have : (p ∈ q :: L) ↔ p ∈ L := by simp [Ne.symm h]
      simp only [this]
theorem facs_only {p j : Nat} (hj : 0 < j) : ∀ {L : List Nat}, L.Nodup → facs (only p j) L = if p ∈ L then [((p : Int), (p : Int) ^ j)] else []
  | [], _ => rfl
  | q :: L, nd => by
    obtain ⟨n1, n2⟩ : _ ∧ _ := List.nodup_cons.mp nd
    have e : facs (only p j) (q :: L) = facs (only p j) [q] ++ facs (only p j) L := facs_app _ [q] L
    rw [e, facs_only hj n2]
    by_cases h : q = p
    · subst h
      rw [if_neg n1, if_pos List.mem_cons_self]
      simp [facs, only, hj]
    · have : (p ∈ q :: L) ↔ p ∈ L := by simp [Ne.symm h]
      simp only [this]
      simp [facs, only, h]
end NT
/-! M4 -/
set_option Elab.async false
set_option linter.all false
set_option maxHeartbeats 2100000
set_option maxRecDepth 10000
/-! the relation of two rows -/
namespace NT
abbrev at_ (c : List Int) (i : Nat) : Int := c.getD i 0
/-- g divides b - k c at every place -/
def Dv (g : Int) (b : List Int) (k : Int) (c : List Int) : Prop := ∀ i, g ∣ at_ b i - k * at_ c i
structure Rel (e f : Nat → Nat) (c b : List Int) (t : Nat → Nat) (κ : Int) : Prop where
  le : ∀ p ∈ PL, t p ≤ e p ∧ t p ≤ f p
  dv : Dv (pr t PL) b κ c
  mx : ∀ p ∈ PL, ∀ j, j ≤ e p → j ≤ f p → ∀ k, Dv ((p : Int) ^ j) b k c → j ≤ t p
theorem Dv.mono {g h : Int} {b c : List Int} {k : Int} (d : h ∣ g) (H : Dv g b k c) : Dv h b k c := fun i => Int.dvd_trans d (H i)
theorem Rel.eqt {e f : Nat → Nat} {c b : List Int} {t t' : Nat → Nat} {κ κ' : Int} (h : Rel e f c b t κ) (h' : Rel e f c b t' κ') : ∀ p ∈ PL, t p = t' p := fun p hp => by
  have h1 := h.mx p hp (t' p) (h'.le p hp).1 (h'.le p hp).2 κ' (h'.dv.mono (pow_dvd_pr t' hp))
  have h2 := h'.mx p hp (t p) (h.le p hp).1 (h.le p hp).2 κ (h.dv.mono (pow_dvd_pr t hp))
  omega
theorem Rel.eqG {e f : Nat → Nat} {c b : List Int} {t t' : Nat → Nat} {κ κ' : Int} (h : Rel e f c b t κ) (h' : Rel e f c b t' κ') : pr t PL = pr t' PL := pr_congr (h.eqt h')
theorem Rel.dm {e f : Nat → Nat} {c b : List Int} {t : Nat → Nat} {κ : Int} (h : Rel e f c b t κ) : pr t PL ∣ pr e PL := pr_dvd fun p hp => (h.le p hp).1
theorem Rel.dn {e f : Nat → Nat} {c b : List Int} {t : Nat → Nat} {κ : Int} (h : Rel e f c b t κ) : pr t PL ∣ pr f PL := pr_dvd fun p hp => (h.le p hp).2
theorem mem_at {c : List Int} {x : Int} (h : x ∈ c) : ∃ i, at_ c i = x := by
  obtain ⟨i, hi, e⟩ := List.getElem_of_mem h
  exact ⟨i, by simp [at_, List.getD, hi, e]⟩
theorem at_mem {c : List Int} (i : Nat) : at_ c i ∈ c ∨ at_ c i = 0 := by
  by_cases h : i < c.length
  · left; simp [at_, List.getD, h]
  · right; simp [at_, List.getD, Nat.le_of_not_lt h]
/-- d divides x when it divides x times the whole row and m -/
theorem Uni.cancel {m : Int} {c : List Int} (h : Uni m c) (h0 : 0 ≤ m) {d x : Int} (h1 : d ∣ m) (h2 : ∀ i, d ∣ x * at_ c i) : d ∣ x := by
  obtain ⟨z, l, hl, hb⟩ := gcdL_bez c m
  rw [h.gcdL h0] at hb
  have h3 : ∀ (l c : List Int), (∀ y ∈ c, d ∣ x * y) → d ∣ x * ((l.zip c).map fun p => p.1 * p.2).sum := by
    intro l
    induction l with
    | nil => intro c _; simp
    | cons a l ih =>
      intro c hc
      cases c with
      | nil => simp
      | cons y c =>
        simp only [List.zip_cons_cons, List.map_cons, List.sum_cons]
        rw [Int.mul_add]
        refine Int.dvd_add ?_ (ih c fun w hw => hc w (List.mem_cons_of_mem _ hw))
        obtain ⟨u, hu⟩ := hc y List.mem_cons_self
        exact ⟨a * u, by grind⟩
  have h4 := h3 l c fun y hy => by
    obtain ⟨i, e⟩ := mem_at hy
    rw [← e]; exact h2 i
  obtain ⟨u, hu⟩ := h1
  obtain ⟨v, hv⟩ := h4
  refine ⟨x * u * z + v, ?_⟩
  have : x = x * (m * z + ((l.zip c).map fun p => p.1 * p.2).sum) := by rw [hb]; omega
  rw [this, Int.mul_add, hv, hu]
  grind
/-- the factors agree -/
theorem Rel.eqk {e f : Nat → Nat} {c b : List Int} {t t' : Nat → Nat} {κ κ' : Int} (hu : Uni (pr e PL) c) (h : Rel e f c b t κ) (h' : Rel e f c b t' κ') : pr t PL ∣ κ - κ' := by
  refine hu.cancel (Int.le_of_lt (pr_pos e fun p hp => hp)) h.dm fun i => ?_
  obtain ⟨u, hu⟩ := h.dv i
  have h2 := h'.dv i
  rw [← h.eqG h'] at h2
  obtain ⟨v, hv⟩ := h2
  exact ⟨v - u, by grind⟩
/-- the factor is a unit -/
theorem Rel.kcop {e f : Nat → Nat} {c b : List Int} {t : Nat → Nat} {κ : Int} (hu : Uni (pr f PL) b) (h : Rel e f c b t κ) : Cop κ (pr t PL) := by
  refine Cop.of_gcd (dvd_one (hu _ (Int.dvd_trans (gcd_dr _ _) h.dn) fun x hx => ?_) (gcd_nn _ _))
  obtain ⟨i, e⟩ := mem_at hx
  obtain ⟨u, hu⟩ := Int.dvd_trans (gcd_dr κ (pr t PL)) (h.dv i)
  obtain ⟨v, hv⟩ := gcd_dl κ (pr t PL)
  rw [e] at hu
  refine ⟨u + v * at_ c i, ?_⟩
  have : x = (x - κ * at_ c i) + κ * at_ c i := by omega
  rw [this, hu]
  rw [Int.mul_add, ← Int.mul_assoc, ← hv]
theorem inv_ex {a m : Int} (h : Cop a m) : ∃ b, m ∣ a * b - 1 ∧ Cop b m := by
  obtain ⟨x, y, e⟩ := h
  exact ⟨x, ⟨-y, by grind⟩, ⟨a, y, by grind⟩⟩
/-- another unit for the first row -/
theorem Rel.left {e f : Nat → Nat} {c c' b : List Int} {t : Nat → Nat} {κ u v : Int} (h : Rel e f c b t κ) (hc : Dv (pr e PL) c' u c) (hv : pr e PL ∣ u * v - 1) : Rel e f c' b t (κ * v) where
  le := h.le
  dv := fun i => by
    obtain ⟨x, hx⟩ := h.dv i
    obtain ⟨y, hy⟩ := Int.dvd_trans h.dm (hc i)
    obtain ⟨z, hz⟩ := Int.dvd_trans h.dm hv
    refine ⟨x - κ * v * y - κ * at_ c i * z, ?_⟩
    have e1 : at_ b i - κ * v * at_ c' i = (at_ b i - κ * at_ c i) - κ * v * (at_ c' i - u * at_ c i) - κ * at_ c i * (u * v - 1) := by grind
    rw [e1, hx, hy, hz]; grind
  mx := fun p hp j h1 h2 k hk => h.mx p hp j h1 h2 (k * u) fun i => by
    obtain ⟨x, hx⟩ := hk i
    have d1 : (p : Int) ^ j ∣ pr e PL := Int.dvd_trans (pow_dvd h1) (pow_dvd_pr e hp)
    obtain ⟨y, hy⟩ := Int.dvd_trans d1 (hc i)
    refine ⟨x + k * y, ?_⟩
    have e1 : at_ b i - k * u * at_ c i = (at_ b i - k * at_ c' i) + k * (at_ c' i - u * at_ c i) := by grind
    rw [e1, hx, hy]; grind
theorem Rel.right {e f : Nat → Nat} {c b b' : List Int} {t : Nat → Nat} {κ u v : Int} (h : Rel e f c b t κ) (hb : Dv (pr f PL) b' u b) (hv : pr f PL ∣ u * v - 1) : Rel e f c b' t (κ * u) where
  le := h.le
  dv := fun i => by
    obtain ⟨x, hx⟩ := h.dv i
    obtain ⟨y, hy⟩ := Int.dvd_trans h.dn (hb i)
    refine ⟨y + u * x, ?_⟩
    have e1 : at_ b' i - κ * u * at_ c i = (at_ b' i - u * at_ b i) + u * (at_ b i - κ * at_ c i) := by grind
    rw [e1, hx, hy]; grind
  mx := fun p hp j h1 h2 k hk => h.mx p hp j h1 h2 (k * v) fun i => by
    obtain ⟨x, hx⟩ := hk i
    have d1 : (p : Int) ^ j ∣ pr f PL := Int.dvd_trans (pow_dvd h2) (pow_dvd_pr f hp)
    obtain ⟨y, hy⟩ := Int.dvd_trans d1 (hb i)
    obtain ⟨z, hz⟩ := Int.dvd_trans d1 hv
    refine ⟨v * x - v * y - z * at_ b i, ?_⟩
    have e1 : at_ b i - k * v * at_ c i = v * (at_ b' i - k * at_ c i) - v * (at_ b' i - u * at_ b i) - (u * v - 1) * at_ b i := by grind
    rw [e1, hx, hy, hz]; grind
theorem Rel.swap {e f : Nat → Nat} {c b : List Int} {t : Nat → Nat} {κ κ' : Int} (h : Rel e f c b t κ) (hu : Uni (pr e PL) c) (hk : pr t PL ∣ κ * κ' - 1) : Rel f e b c t κ' where
  le := fun p hp => ⟨(h.le p hp).2, (h.le p hp).1⟩
  dv := fun i => by
    obtain ⟨x, hx⟩ := h.dv i
    obtain ⟨z, hz⟩ := hk
    refine ⟨-(κ' * x) - z * at_ c i, ?_⟩
    have e1 : at_ c i - κ' * at_ b i = -(κ' * (at_ b i - κ * at_ c i)) - (κ * κ' - 1) * at_ c i := by grind
    rw [e1, hx, hz]; grind
  mx := fun p hp j h1 h2 k hk2 => by
    rcases Nat.eq_zero_or_pos j with h0 | h0
    · omega
    have hpj : (p : Int) ∣ (p : Int) ^ j := by
      have := pow_dvd (p := (p : Int)) (m := 1) (n := j) h0
      rwa [Int.pow_succ, Int.pow_zero, Int.one_mul] at this
    rcases prime_or hp k with hc | hc
    · obtain ⟨k', hk', _⟩ := inv_ex (Cop.pow_right hc.symm j)
      refine h.mx p hp j h2 h1 k' fun i => ?_
      obtain ⟨x, hx⟩ := hk2 i
      obtain ⟨z, hz⟩ := hk'
      refine ⟨-(k' * x) - z * at_ b i, ?_⟩
      have e1 : at_ b i - k' * at_ c i = -(k' * (at_ c i - k * at_ b i)) - (k * k' - 1) * at_ b i := by grind
      rw [e1, hx, hz]; grind
    · exfalso
      have hpm : (p : Int) ∣ pr e PL := Int.dvd_trans hpj (Int.dvd_trans (pow_dvd h2) (pow_dvd_pr e hp))
      have h3 := hu p hpm fun x hx => by
        obtain ⟨i, ei⟩ := mem_at hx
        have h4 := Int.dvd_trans hpj (hk2 i)
        rw [ei] at h4
        have e2 : x = (x - k * at_ b i) + k * at_ b i := by omega
        rw [e2]
        exact Int.dvd_add h4 (Int.dvd_mul_of_dvd_left hc)
      have := dvd_one h3 (by omega)
      have := PL_two hp
      omega
/-- the test in common_factor -/
theorem at_app1 {a b : List Int} {x : Int} : at_ (a ++ x :: b) a.length = x := by simp [at_, List.getD]
theorem at_app0 {a b : List Int} {i : Nat} (h : i < a.length) : at_ (a ++ b) i ∈ a := by
  simp [at_, List.getD, List.getElem?_append_left h, h]
theorem cf_test {p : Nat} (hp : p ∈ PL) {j : Nat} (hj : 0 < j) {near far a1 b1 a2 b2 : List Int} {x1 x2 u v w k : Int} (e1 : near = a1 ++ x1 :: b1) (e2 : far = a2 ++ x2 :: b2)
    (h1 : ∀ y ∈ a1, (p : Int) ∣ y) (n1 : ¬ (p : Int) ∣ x1) (h2 : ∀ y ∈ a2, (p : Int) ∣ y) (n2 : ¬ (p : Int) ∣ x2)
    (hu : (p : Int) ^ j ∣ x1 * u - 1) (hv : (p : Int) ^ j ∣ x2 * v - 1) (hw : (p : Int) ^ j ∣ v * w - 1) (hk : Dv ((p : Int) ^ j) far k near) : (p : Int) ^ j ∣ u * w - k := by
  have hpj : (p : Int) ∣ (p : Int) ^ j := by
    have := pow_dvd (p := (p : Int)) (m := 1) (n := j) hj
    rwa [Int.pow_succ, Int.pow_zero, Int.one_mul] at this
  have hd : ∀ i, (p : Int) ∣ at_ far i - k * at_ near i := fun i => Int.dvd_trans hpj (hk i)
  have hfn : ∀ i, (p : Int) ∣ at_ near i → (p : Int) ∣ at_ far i := fun i h => by
    have e : at_ far i = (at_ far i - k * at_ near i) + k * at_ near i := by omega
    rw [e]; exact Int.dvd_add (hd i) (Int.dvd_mul_of_dvd_right h)
  have hk0 : ¬ (p : Int) ∣ k := fun z => by
    have h3 := hd a2.length
    rw [e2, at_app1] at h3
    have e : x2 = (x2 - k * at_ near a2.length) + k * at_ near a2.length := by omega
    exact n2 (e ▸ Int.dvd_add h3 (Int.dvd_mul_of_dvd_left z))
  have hl : a1.length = a2.length := by
    rcases Nat.lt_trichotomy a1.length a2.length with h | h | h
    · exfalso
      have h3 := hd a1.length
      rw [e1, at_app1] at h3
      have h4 : (p : Int) ∣ at_ far a1.length := by rw [e2]; exact h2 _ (at_app0 h)
      have h5 : (p : Int) ∣ k * x1 := by
        have e : k * x1 = at_ far a1.length - (at_ far a1.length - k * x1) := by omega
        rw [e]; exact Int.dvd_sub h4 h3
      rcases prime_mul hp h5 with z | z
      · exact hk0 z
      · exact n1 z
    · exact h
    · exfalso
      have h4 : (p : Int) ∣ at_ near a2.length := by rw [e1]; exact h1 _ (at_app0 h)
      have h5 := hfn _ h4
      rw [e2, at_app1] at h5
      exact n2 h5
  have h6 := hk a1.length
  rw [e1, at_app1, hl, e2, at_app1] at h6
  obtain ⟨q1, r1⟩ := hu
  obtain ⟨q2, r2⟩ := hv
  obtain ⟨q3, r3⟩ := hw
  obtain ⟨q4, r4⟩ := h6
  -- w = x2 (mod), u w = u x2 = u k x1 = k
  refine ⟨u * w * (-q2) + u * x2 * q3 + u * q4 + k * q1, ?_⟩
  have : u * w - k = u * w * (-(x2 * v - 1)) + u * x2 * (v * w - 1) + u * (x2 - k * x1) + k * (x1 * u - 1) := by grind
  rw [this, r1, r2, r3, r4]; grind
/-- exponents one by one -/
def put (t : Nat → Nat) (p j : Nat) : Nat → Nat := fun q => if q = p then j else t q
theorem pr_put {t : Nat → Nat} {p j : Nat} (h0 : t p = 0) : ∀ {L : List Nat}, L.Nodup → p ∈ L → pr (put t p j) L = pr t L * (p : Int) ^ j
  | q :: L, nd, hm => by
    obtain ⟨n1, n2⟩ : _ ∧ _ := List.nodup_cons.mp nd
    rw [pr_cons, pr_cons]
    by_cases h : q = p
    · subst h
      have e : pr (put t q j) L = pr t L := pr_congr fun r hr => by
        unfold put
        rw [if_neg fun z => n1 (by rw [← z]; exact hr)]
      rw [e, h0, Int.pow_zero, Int.one_mul]
      unfold put
      rw [if_pos rfl, Int.mul_comm]
    · have hm2 : p ∈ L := by
        rcases List.mem_cons.mp hm with z | z
        · exact absurd z.symm h
        · exact z
      rw [pr_put h0 n2 hm2]
      unfold put
      rw [if_neg h, Int.mul_assoc]
theorem pr_cop0 {t : Nat → Nat} {p : Nat} (hp : p ∈ PL) (h0 : t p = 0) : ∀ {L : List Nat}, (∀ q ∈ L, q ∈ PL) → Cop (p : Int) (pr t L)
  | [], _ => by rw [pr_nil]; exact .one_right
  | q :: L, h => by
    rw [pr_cons]
    refine Cop.mul_right ?_ (pr_cop0 hp h0 fun r hr => h r (List.mem_cons_of_mem _ hr))
    by_cases e : q = p
    · subst e; rw [h0, Int.pow_zero]; exact .one_right
    · exact Cop.pow_right (prime_cop hp (h q List.mem_cons_self) (Ne.symm e)) _
theorem CopL.app : ∀ {ps : List (Int × Int)} {A : Int} {q : Int × Int}, CopL A ps → 0 < q.2 → Cop (A * pm ps) q.2 → CopL A (ps ++ [q])
  | [], A, q, _, h1, h2 => ⟨h1, by have e : A * pm [] = A := by simp [pm]
                                   rwa [e] at h2, trivial⟩
  | p :: ps, A, q, h, h1, h2 => ⟨h.1, h.2.1, CopL.app h.2.2 h1 (by rw [pm_cons, ← Int.mul_assoc] at h2; exact h2)⟩
theorem pm_app (ps : List (Int × Int)) (q : Int × Int) : pm (ps ++ [q]) = pm ps * q.2 := by
  unfold pm
  rw [List.map_append, prod_app]; simp
theorem at_map (f : Int → Int) (h0 : f 0 = 0) (c : List Int) (i : Nat) : at_ (c.map f) i = f (at_ c i) := by
  unfold at_ List.getD
  rw [List.getElem?_map]
  cases c[i]? with
  | none => simp [h0]
  | some x => rfl
theorem at_ext {a b : List Int} (hl : a.length = b.length) (h : ∀ i, at_ a i = at_ b i) : a = b := by
  refine List.ext_getElem hl fun i h1 h2 => ?_
  have := h i
  simpa [at_, List.getD, h1, h2] using this
theorem facs_map (e : Nat → Nat) (L : List Nat) : facs e L = (L.filter fun p => decide (0 < e p)).map fun p : Nat => ((p : Int), (p : Int) ^ e p) := rfl
theorem facs_keys (e : Nat → Nat) {L : List Nat} (h : L.Nodup) : ((facs e L).map (·.1)).Nodup := by
  rw [facs_map, List.map_map]
  exact List.Pairwise.map _ (fun a b hab z => hab (Int.ofNat.inj z)) (h.filter _)
theorem facs_lookup (e : Nat → Nat) {p : Nat} : ∀ {L : List Nat}, L.Nodup → p ∈ L → ((facs e L).lookup (p : Int)).getD 1 = (p : Int) ^ e p
  | q :: L, nd, hm => by
    obtain ⟨n1, n2⟩ : _ ∧ _ := List.nodup_cons.mp nd
    have hs : facs e (q :: L) = facs e [q] ++ facs e L := facs_app e [q] L
    have hnone : ∀ {L : List Nat}, p ∉ L → (facs e L).lookup (p : Int) = none := by
      intro L
      induction L with
      | nil => intro _; rfl
      | cons r L ih =>
        intro hn
        have h1 : facs e (r :: L) = facs e [r] ++ facs e L := facs_app e [r] L
        rw [h1]
        have h2 : p ≠ r := fun z => hn (by simp [z])
        have h3 : ((p : Int) == (r : Int)) = false := by simp; omega
        by_cases h0 : 0 < e r
        · simp [facs, h0, List.lookup, h3] at ih ⊢
          exact ih fun z => hn (by simp [z])
        · simp [facs, h0] at ih ⊢
          exact ih fun z => hn (by simp [z])
    rw [hs]
    by_cases h : q = p
    · subst h
      by_cases h0 : 0 < e q
      · simp [facs, h0, List.lookup]
      · have h00 : e q = 0 := by omega
        have h1 : facs e [q] = [] := by simp [facs, h00]
        rw [h1, List.nil_append, hnone n1, h00]; simp
    · have h3 : ((p : Int) == (q : Int)) = false := by simp; omega
      have ih := facs_lookup e n2 (by
        rcases List.mem_cons.mp hm with z | z
        · exact absurd z.symm h
        · exact z)
      by_cases h0 : 0 < e q
      · simp only [facs, List.filter, h0, decide_true, List.map, List.cons_append, List.nil_append, List.lookup, h3]
        exact ih
      · have h1 : facs e [q] = [] := by simp [facs, h0]
        rw [h1, List.nil_append]; exact ih
theorem pow_min {p : Nat} (h : 2 ≤ p) (a b : Nat) : min ((p : Int) ^ a) ((p : Int) ^ b) = (p : Int) ^ min a b := by
  rcases Nat.le_total a b with hab | hab
  · rw [Nat.min_eq_left hab, Int.min_eq_left (Int.le_of_dvd (pow_pos (by omega) _) (pow_dvd hab))]
  · rw [Nat.min_eq_right hab, Int.min_eq_right (Int.le_of_dvd (pow_pos (by omega) _) (pow_dvd hab))]
end NT
/-! M5 -/
set_option Elab.async false
set_option linter.all false
set_option maxHeartbeats 2100000
set_option maxRecDepth 10000
/-! the loop of common_factor -/
namespace NT
structure CFI (e f : Nat → Nat) (c b : List Int) (xs : List Nat) (t : Nat → Nat) (ps : List (Int × Int)) : Prop where
  nd : xs.Nodup
  sub : ∀ p ∈ xs, p ∈ PL ∧ 0 < e p
  z : ∀ p ∈ xs, t p = 0
  le : ∀ p ∈ PL, t p ≤ e p ∧ t p ≤ f p
  cop : CopL 1 ps
  pm : pm ps = pr t PL
  sz : ∀ q ∈ ps, 0 ≤ q.1 ∧ q.1 ≤ pr e PL
  dv : ∀ r, (∀ q ∈ ps, q.2 ∣ r - q.1) → ∀ p ∈ PL, Dv ((p : Int) ^ t p) b r c
  mx : ∀ p ∈ PL, p ∉ xs → ∀ j, j ≤ e p → j ≤ f p → ∀ k, Dv ((p : Int) ^ j) b k c → j ≤ t p
  len : ps.length + xs.length ≤ 10
theorem CFI.start (e f : Nat → Nat) (c b : List Int) : CFI e f c b (PL.filter fun p => decide (0 < e p)) (fun _ => 0) [] where
  nd := PL_nodup.filter _
  sub := fun p hp => ⟨(List.mem_filter.mp hp).1, of_decide_eq_true (List.mem_filter.mp hp).2⟩
  z := fun _ _ => rfl
  le := fun _ _ => ⟨Nat.zero_le _, Nat.zero_le _⟩
  cop := trivial
  pm := by
    show (1 : Int) = _
    have : pr (fun _ => 0) PL = 1 := by decide
    rw [this]
  sz := fun q hq => by cases hq
  dv := fun r _ p _ i => by rw [Int.pow_zero]; exact Int.one_dvd _
  mx := fun p hp hn j h1 _ _ _ => by
    have : ¬ 0 < e p := fun h => hn (List.mem_filter.mpr ⟨hp, decide_eq_true h⟩)
    omega
  len := by
    have := List.length_filter_le (fun p => decide (0 < e p)) PL
    have h2 : PL.length = 10 := rfl
    simp only [List.length_nil]
    omega
theorem CFI.miss {e f : Nat → Nat} {c b : List Int} {p : Nat} {xs : List Nat} {t : Nat → Nat} {ps : List (Int × Int)} (h : CFI e f c b (p :: xs) t ps)
    (hm : ∀ j, j ≤ e p → j ≤ f p → ∀ k, Dv ((p : Int) ^ j) b k c → j ≤ 0) : CFI e f c b xs t ps where
  nd := (List.nodup_cons.mp h.nd).2
  sub := fun q hq => h.sub q (List.mem_cons_of_mem _ hq)
  z := fun q hq => h.z q (List.mem_cons_of_mem _ hq)
  le := h.le
  cop := h.cop
  pm := h.pm
  sz := h.sz
  dv := h.dv
  mx := fun q hq hn j h1 h2 k hk => by
    by_cases e1 : q = p
    · subst e1
      have := hm j h1 h2 k hk
      omega
    · exact h.mx q hq (fun z => (List.mem_cons.mp z).elim e1 hn) j h1 h2 k hk
  len := by have := h.len; simp at this; omega
theorem CFI.hit {e f : Nat → Nat} {c b : List Int} {p : Nat} {xs : List Nat} {t : Nat → Nat} {ps : List (Int × Int)} (h : CFI e f c b (p :: xs) t ps) {j : Nat} {φ : Int}
    (je : j ≤ e p) (jf : j ≤ f p) (h0 : 0 ≤ φ) (h1 : φ < (p : Int) ^ j) (hd : Dv ((p : Int) ^ j) b φ c)
    (hm : ∀ j', j' ≤ e p → j' ≤ f p → ∀ k, Dv ((p : Int) ^ j') b k c → j' ≤ j) : CFI e f c b xs (put t p j) (ps ++ [(φ, (p : Int) ^ j)]) := by
  obtain ⟨n1, n2⟩ := List.nodup_cons.mp h.nd
  obtain ⟨hp, he⟩ := h.sub p List.mem_cons_self
  have hz := h.z p List.mem_cons_self
  have hpp : 0 < (p : Int) ^ j := pow_pos (by have := PL_two hp; omega) j
  have hle : (p : Int) ^ j ≤ pr e PL := by
    refine Int.le_of_dvd (pr_pos e fun p hp => hp) ?_
    exact Int.dvd_trans (pow_dvd je) (pow_dvd_pr e hp)
  have hcop : CopL 1 (ps ++ [(φ, (p : Int) ^ j)]) := h.cop.app hpp (by rw [Int.one_mul, h.pm]; exact (Cop.pow_right (pr_cop0 hp hz fun q hq => hq).symm j))
  refine ⟨n2, fun q hq => h.sub q (List.mem_cons_of_mem _ hq), fun q hq => ?_, fun q hq => ?_, hcop, ?_, fun q hq => ?_, fun r hr q hq => ?_, fun q hq hn j' h2 h3 k hk => ?_, ?_⟩
  · unfold put
    rw [if_neg fun z => n1 (by rw [← z]; exact hq)]
    exact h.z q (List.mem_cons_of_mem _ hq)
  · unfold put
    split
    · rename_i z; subst z; exact ⟨je, jf⟩
    · exact h.le q hq
  · rw [pm_app, h.pm, pr_put hz PL_nodup hp]
  · rcases List.mem_append.mp hq with z | z
    · exact h.sz q z
    · rcases List.mem_singleton.mp z with rfl
      exact ⟨h0, by show φ ≤ _; omega⟩
  · unfold put
    split
    · rename_i z
      subst z
      have h4 := hr (φ, (q : Int) ^ j) (List.mem_append_right _ (List.mem_singleton.mpr rfl))
      intro i
      obtain ⟨x, hx⟩ := hd i
      obtain ⟨y, hy⟩ := h4
      refine ⟨x - y * at_ c i, ?_⟩
      have hy' : r - φ = (q : Int) ^ j * y := hy
      have e1 : at_ b i - r * at_ c i = (at_ b i - φ * at_ c i) - (r - φ) * at_ c i := by grind
      rw [e1, hx, hy']; grind
    · exact h.dv r (fun s hs => hr s (List.mem_append_left _ hs)) q hq
  · unfold put
    split
    · rename_i z; subst z; exact hm j' h2 h3 k hk
    · rename_i z
      exact h.mx q hq (fun y => (List.mem_cons.mp y).elim z hn) j' h2 h3 k hk
  · have := h.len; simp at this ⊢; omega
theorem CFI.fin {e f : Nat → Nat} {c b : List Int} {t : Nat → Nat} {ps : List (Int × Int)} (h : CFI e f c b [] t ps) {φ : Int} (hφ : ∀ q ∈ ps, q.2 ∣ φ - q.1) : Rel e f c b t φ where
  le := h.le
  dv := fun i => pr_dvd_of t (fun p hp => hp) PL_nodup fun p hp => h.dv φ hφ p hp i
  mx := fun p hp => h.mx p hp (by simp)
theorem dv_mod {m φ : Int} {c b : List Int} (hl : c.length = b.length) (h0 : 0 < m) : ((c.map (· % m)).map fun x => φ * x).map (· % m) = b.map (· % m) ↔ Dv m b φ c := by
  constructor
  · intro h i
    have h1 : at_ (((c.map (· % m)).map fun x => φ * x).map (· % m)) i = at_ (b.map (· % m)) i := by rw [h]
    rw [at_map _ (by simp), at_map _ (by simp), at_map _ (by simp), at_map _ (by simp)] at h1
    obtain ⟨x, hx⟩ := mod_dvd (φ * (at_ c i % m)) m
    obtain ⟨y, hy⟩ := mod_dvd (at_ b i) m
    obtain ⟨z, hz⟩ := mod_dvd (at_ c i) m
    refine ⟨y - x - φ * z, ?_⟩
    have e1 : at_ b i - φ * at_ c i = (at_ b i - at_ b i % m) - (φ * (at_ c i % m) - φ * (at_ c i % m) % m) - φ * (at_ c i - at_ c i % m) := by
      have h1' : φ * (at_ c i % m) % m = at_ b i % m := h1
      rw [h1']; grind
    rw [e1, hx, hy, hz]; grind
  · intro h
    refine at_ext (by simp [hl]) fun i => ?_
    rw [at_map _ (by simp), at_map _ (by simp), at_map _ (by simp), at_map _ (by simp)]
    refine mod_eq ?_
    obtain ⟨x, hx⟩ := h i
    obtain ⟨z, hz⟩ := mod_dvd (at_ c i) m
    refine ⟨-x - φ * z, ?_⟩
    have e1 : φ * (at_ c i % m) - at_ b i = -(at_ b i - φ * at_ c i) - φ * (at_ c i - at_ c i % m) := by grind
    show φ * (at_ c i % m) - at_ b i = _
    rw [e1, hx, hz]; grind
theorem dv_mods {m k : Int} {c b : List Int} (h : Dv m b k c) : Dv m (b.map (· % m)) k (c.map (· % m)) := fun i => by
  rw [at_map _ (by simp), at_map _ (by simp)]
  obtain ⟨x, hx⟩ := h i
  obtain ⟨y, hy⟩ := mod_dvd (at_ b i) m
  obtain ⟨z, hz⟩ := mod_dvd (at_ c i) m
  refine ⟨x - y + k * z, ?_⟩
  have e1 : at_ b i % m - k * (at_ c i % m) = (at_ b i - k * at_ c i) - (at_ b i - at_ b i % m) + k * (at_ c i - at_ c i % m) := by grind
  show at_ b i % m - k * (at_ c i % m) = _
  rw [e1, hx, hy, hz]; grind
/-- the first unit in the row, by the power -/
theorem first_unit {m : Int} {c : List Int} (hu : Uni m c) {p j : Nat} (hp : p ∈ PL) (hj : 0 < j) (hm : (p : Int) ^ j ∣ m) : ∃ a x b, c.map (· % (p : Int) ^ j) = a ++ x :: b ∧ (∀ y ∈ a, (p : Int) ∣ y) ∧ ¬ (p : Int) ∣ x := by
  have hpj : (p : Int) ∣ (p : Int) ^ j := by
    have := pow_dvd (p := (p : Int)) (m := 1) (n := j) hj
    rwa [Int.pow_succ, Int.pow_zero, Int.one_mul] at this
  obtain ⟨x, hx, hn⟩ := hu.unit hp (Int.dvd_trans hpj hm)
  refine first_split ⟨x % (p : Int) ^ j, List.mem_map.mpr ⟨x, hx, rfl⟩, fun h => hn ?_⟩
  have e : x = (x - x % (p : Int) ^ j) + x % (p : Int) ^ j := by omega
  rw [e]
  exact Int.dvd_add (Int.dvd_trans hpj (mod_dvd x _)) h
end NT
/-! M6 -/
set_option Elab.async false
set_option linter.all false
set_option maxHeartbeats 2100000
set_option maxRecDepth 10000
/-! lattices: gathered_steps, narrowed -/
namespace NT
abbrev Vc := Nat → Int
def vec (v : List Int) : Vc := fun i => at_ v i
def dtF : List Int → Vc → Int
  | [], _ => 0
  | a :: r, y => a * y 0 + dtF r (fun i => y (i + 1))
def dt (a b : List Int) : Int := ((a.zip b).map fun p => p.1 * p.2).sum
theorem dtF_add : ∀ (r : List Int) (x y : Vc), dtF r (fun i => x i + y i) = dtF r x + dtF r y
  | [], _, _ => rfl
  | a :: r, x, y => by
    show a * (x 0 + y 0) + dtF r (fun i => x (i + 1) + y (i + 1)) = (a * x 0 + dtF r fun i => x (i + 1)) + (a * y 0 + dtF r fun i => y (i + 1))
    rw [dtF_add r (fun i => x (i + 1)) fun i => y (i + 1)]; grind
theorem dtF_smul : ∀ (r : List Int) (k : Int) (y : Vc), dtF r (fun i => k * y i) = k * dtF r y
  | [], _, _ => by simp [dtF]
  | a :: r, k, y => by
    show a * (k * y 0) + dtF r (fun i => k * y (i + 1)) = k * (a * y 0 + dtF r fun i => y (i + 1))
    rw [dtF_smul r k fun i => y (i + 1)]; grind
theorem dtF_zero : ∀ (r : List Int), dtF r (fun _ => 0) = 0
  | [] => rfl
  | a :: r => by
    show a * 0 + dtF r (fun _ => 0) = 0
    rw [dtF_zero r]; omega
theorem dt_vec : ∀ (r v : List Int), dt r v = dtF r (vec v)
  | [], v => by simp [dt, dtF]
  | a :: r, [] => by
    have : vec [] = fun _ => 0 := by funext i; simp [vec, at_]
    rw [this, dtF_zero]; simp [dt]
  | a :: r, b :: v => by
    have ih := dt_vec r v
    have e : dt (a :: r) (b :: v) = a * b + dt r v := by simp [dt]
    rw [e, ih]; rfl
inductive Spn (vs : List (List Int)) : Vc → Prop
  | zero : Spn vs fun _ => 0
  | gen (v : List Int) : v ∈ vs → Spn vs (vec v)
  | add (x y : Vc) : Spn vs x → Spn vs y → Spn vs fun i => x i + y i
  | smul (k : Int) (x : Vc) : Spn vs x → Spn vs fun i => k * x i
theorem Spn.sub {vs ws : List (List Int)} (h : ∀ v ∈ vs, Spn ws (vec v)) {y : Vc} (hy : Spn vs y) : Spn ws y := by
  induction hy with
  | zero => exact .zero
  | gen v hv => exact h v hv
  | add x y _ _ h1 h2 => exact .add x y h1 h2
  | smul k x _ h1 => exact .smul k x h1
theorem Spn.dvd {vs : List (List Int)} {h : Int} {row : List Int} (H : ∀ v ∈ vs, h ∣ dt row v) {y : Vc} (hy : Spn vs y) : h ∣ dtF row y := by
  induction hy with
  | zero => rw [dtF_zero]; exact Int.dvd_zero _
  | gen v hv => rw [← dt_vec]; exact H v hv
  | add x y _ _ h1 h2 => rw [dtF_add]; exact Int.dvd_add h1 h2
  | smul k x _ h1 => rw [dtF_smul]; exact Int.dvd_mul_of_dvd_right h1
theorem Spn.split {v : List Int} {ws : List (List Int)} {y : Vc} (hy : Spn (v :: ws) y) : ∃ k z, Spn ws z ∧ y = fun i => k * vec v i + z i := by
  induction hy with
  | zero => exact ⟨0, _, .zero, by funext i; omega⟩
  | gen u hu =>
    rcases List.mem_cons.mp hu with e | e
    · subst e; exact ⟨1, _, .zero, by funext i; omega⟩
    · exact ⟨0, _, .gen u e, by funext i; omega⟩
  | add x y _ _ h1 h2 =>
    obtain ⟨k1, z1, s1, e1⟩ := h1
    obtain ⟨k2, z2, s2, e2⟩ := h2
    refine ⟨k1 + k2, _, .add z1 z2 s1 s2, ?_⟩
    rw [e1, e2]; funext i; grind
  | smul k x _ h1 =>
    obtain ⟨k1, z1, s1, e1⟩ := h1
    refine ⟨k * k1, _, .smul k z1 s1, ?_⟩
    rw [e1]; funext i; grind
theorem Spn.addk {vs : List (List Int)} {x y : Vc} (k : Int) (hx : Spn vs x) (hy : Spn vs y) : Spn vs fun i => x i + k * y i := .add x _ hx (.smul k y hy)
theorem Spn.mem {vs ws : List (List Int)} (h : ∀ v, v ∈ vs → v ∈ ws) {y : Vc} (hy : Spn vs y) : Spn ws y := hy.sub fun v hv => .gen v (h v hv)
def addm (a : List Int) (k : Int) (b : List Int) : List Int := (a.zip b).map fun p => p.1 + k * p.2
theorem addm_len {a b : List Int} {k : Int} (h : a.length = b.length) : (addm a k b).length = a.length := by simp [addm, h]
theorem addm_at : ∀ {a b : List Int} {k : Int}, a.length = b.length → ∀ i, at_ (addm a k b) i = at_ a i + k * at_ b i
  | [], [], k, _, i => by simp [addm, at_]
  | a :: as, b :: bs, k, h, 0 => by simp [addm, at_]
  | a :: as, b :: bs, k, h, i + 1 => by
    have := addm_at (a := as) (b := bs) (k := k) (by simpa using h) i
    simpa [addm, at_] using this
theorem addm_vec {a b : List Int} {k : Int} (h : a.length = b.length) : vec (addm a k b) = fun i => vec a i + k * vec b i := by funext i; exact addm_at h i
theorem dt_addm {r a b : List Int} {k : Int} (h : a.length = b.length) : dt r (addm a k b) = dt r a + k * dt r b := by
  rw [dt_vec, dt_vec, dt_vec, addm_vec h, dtF_add, dtF_smul]
/-! ### the loop of gathered_steps -/
def ff (v : Int) : Int := if v = 0 then 1 else 2 * v
def wt (vs : List Int) : Int := (vs.map ff).prod
theorem ff_pos {v : Int} (h : 0 ≤ v) : 1 ≤ ff v := by unfold ff; split <;> omega
theorem wt_pos : ∀ {vs : List Int}, (∀ v ∈ vs, 0 ≤ v) → 1 ≤ wt vs
  | [], _ => by simp [wt]
  | v :: vs, h => by
    have e : wt (v :: vs) = ff v * wt vs := by simp [wt]
    rw [e]
    have h1 := ff_pos (h v List.mem_cons_self)
    have h2 := wt_pos (vs := vs) fun u hu => h u (List.mem_cons_of_mem _ hu)
    have := Int.mul_le_mul_of_nonneg_left (a := 1) (b := wt vs) (c := ff v) h2 (by omega)
    omega
theorem wt_set : ∀ (vs : List Int) (i : Nat) (x : Int), i < vs.length → wt (vs.set i x) * ff (at_ vs i) = wt vs * ff x
  | v :: vs, 0, x, _ => by
    have e1 : wt ((v :: vs).set 0 x) = ff x * wt vs := by simp [wt]
    have e2 : wt (v :: vs) = ff v * wt vs := by simp [wt]
    have e3 : at_ (v :: vs) 0 = v := by simp [at_]
    rw [e1, e2, e3]; grind
  | v :: vs, i + 1, x, h => by
    have ih := wt_set vs i x (by simpa using h)
    have e1 : wt ((v :: vs).set (i + 1) x) = ff v * wt (vs.set i x) := by simp [wt]
    have e2 : wt (v :: vs) = ff v * wt vs := by simp [wt]
    have e3 : at_ (v :: vs) (i + 1) = at_ vs i := by simp [at_]
    rw [e1, e2, e3, Int.mul_assoc, ih]; grind
theorem wt_le : ∀ {vs : List Int} {m : Int}, 1 ≤ m → (∀ v ∈ vs, 0 ≤ v ∧ v ≤ m) → wt vs ≤ (2 * m) ^ vs.length
  | [], m, _, _ => by simp [wt]
  | v :: vs, m, hm, h => by
    have e : wt (v :: vs) = ff v * wt vs := by simp [wt]
    rw [e, List.length_cons, Int.pow_succ]
    have h1 := wt_le hm fun u hu => h u (List.mem_cons_of_mem _ hu)
    have h2 : 1 ≤ wt vs := wt_pos fun u hu => (h u (List.mem_cons_of_mem _ hu)).1
    have h3 := h v List.mem_cons_self
    have h4 : ff v ≤ 2 * m := by unfold ff; split <;> omega
    have h5 : 1 ≤ ff v := ff_pos h3.1
    calc ff v * wt vs ≤ (2 * m) * wt vs := Int.mul_le_mul_of_nonneg_right h4 (by omega)
      _ ≤ (2 * m) * (2 * m) ^ vs.length := Int.mul_le_mul_of_nonneg_left h1 (by omega)
      _ = (2 * m) ^ vs.length * (2 * m) := Int.mul_comm _ _
/-- what the loop keeps: left and its values, the first steps, the bound -/
structure GInv (st : List (List Int)) (row : List Int) (m B : Int) (left : List (List Int)) (vs : List Int) : Prop where
  l1 : left.length = st.length
  l2 : vs.length = st.length
  l3 : ∀ v ∈ left, v.length = row.length
  v0 : ∀ v ∈ vs, 0 ≤ v ∧ v < m
  cg : ∀ j (h : j < left.length), m ∣ dt row left[j] - at_ vs j
  sp : ∀ y, Spn left y ↔ Spn st y
  sz : ∃ M, 0 ≤ M ∧ (∀ v ∈ left, ∀ x ∈ v, (x.natAbs : Int) ≤ M) ∧ M * wt vs ≤ B
theorem at_get {c : List Int} {i : Nat} (h : i < c.length) : at_ c i = c[i] := by simp [at_, List.getD, h]
theorem at_memlt {c : List Int} {i : Nat} (h : i < c.length) : at_ c i ∈ c := by rw [at_get h]; exact List.getElem_mem h
theorem GInv.step {st : List (List Int)} {row : List Int} {m B : Int} {left : List (List Int)} {vs : List Int} (G : GInv st row m B left vs) {i a : Nat} (hi : i < left.length) (ha : a < left.length) (hn : i ≠ a) (hm : 0 < m) (hv : 0 < at_ vs a) (hvi : at_ vs a ≤ at_ vs i) :
    GInv st row m B (left.set i (addm left[i] (-(at_ vs i / at_ vs a)) left[a])) (vs.set i (at_ vs i % at_ vs a)) := by
  have hll : left[i].length = left[a].length := by rw [G.l3 _ (List.getElem_mem hi), G.l3 _ (List.getElem_mem ha)]
  have hiv : i < vs.length := by rw [G.l2, ← G.l1]; exact hi
  have hav : a < vs.length := by rw [G.l2, ← G.l1]; exact ha
  have hr0 := Int.emod_nonneg (at_ vs i) (by omega : at_ vs a ≠ 0)
  have hr1 := Int.emod_lt_of_pos (at_ vs i) hv
  have hdm := Int.mul_ediv_add_emod (at_ vs i) (at_ vs a)
  have hi0 := G.v0 _ (at_memlt hiv)
  generalize hq : at_ vs i / at_ vs a = q at *
  generalize hrr : at_ vs i % at_ vs a = r at *
  have hq0 : 0 ≤ q := by rw [← hq]; exact Int.ediv_nonneg (by omega) (by omega)
  have hq1 : 1 ≤ q := by
    rcases Int.lt_or_le q 1 with z | z
    · have : q = 0 := by omega
      subst this
      omega
    · exact z
  refine ⟨by rw [List.length_set]; exact G.l1, by rw [List.length_set]; exact G.l2, fun v hv' => ?_, fun v hv' => ?_, fun j hj => ?_, fun y => ?_, ?_⟩
  · rcases List.mem_or_eq_of_mem_set hv' with z | z
    · exact G.l3 v z
    · rw [z, addm_len hll]; exact G.l3 _ (List.getElem_mem hi)
  · rcases List.mem_or_eq_of_mem_set hv' with z | z
    · exact G.v0 v z
    · rw [z]; exact ⟨hr0, by have := (G.v0 _ (at_memlt hav)).2; omega⟩
  · rw [List.length_set] at hj
    by_cases e : i = j
    · subst e
      rw [List.getElem_set_self]
      have e1 : at_ (vs.set i r) i = r := by rw [at_get (by rw [List.length_set]; exact hiv), List.getElem_set_self]
      rw [e1, dt_addm hll]
      obtain ⟨u1, h1⟩ := G.cg i hi
      obtain ⟨u2, h2⟩ := G.cg a ha
      refine ⟨u1 - q * u2, ?_⟩
      have e2 : dt row left[i] + -q * dt row left[a] - r = (dt row left[i] - at_ vs i) - q * (dt row left[a] - at_ vs a) + (at_ vs i - (at_ vs a * q + r)) := by grind
      rw [e2, h1, h2, hdm]; grind
    · rw [List.getElem_set_ne e]
      have e1 : at_ (vs.set i r) j = at_ vs j := by simp [at_, List.getD, List.getElem?_set_ne e]
      rw [e1]; exact G.cg j hj
  · rw [← G.sp y]
    have ha' : left[a] ∈ left.set i (addm left[i] (-q) left[a]) := by
      have : (left.set i (addm left[i] (-q) left[a]))[a]'(by rw [List.length_set]; exact ha) = left[a] := List.getElem_set_ne hn _
      have h2 := List.getElem_mem (l := left.set i (addm left[i] (-q) left[a])) (n := a) (by rw [List.length_set]; exact ha)
      rw [this] at h2; exact h2
    constructor
    · refine Spn.sub fun v hv' => ?_
      rcases List.mem_or_eq_of_mem_set hv' with z | z
      · exact .gen v z
      · rw [z, addm_vec hll]
        exact Spn.addk _ (.gen _ (List.getElem_mem hi)) (.gen _ (List.getElem_mem ha))
    · refine Spn.sub fun v hv' => ?_
      obtain ⟨j, hj, e⟩ := List.getElem_of_mem hv'
      by_cases ej : i = j
      · subst ej
        have h1 : Spn (left.set i (addm left[i] (-q) left[a])) (vec (addm left[i] (-q) left[a])) := .gen _ (by
          have : (left.set i (addm left[i] (-q) left[a]))[i]'(by rw [List.length_set]; exact hi) = addm left[i] (-q) left[a] := List.getElem_set_self _
          have h2 := List.getElem_mem (l := left.set i (addm left[i] (-q) left[a])) (n := i) (by rw [List.length_set]; exact hi)
          rw [this] at h2; exact h2)
        have h2 := Spn.addk q h1 (.gen _ ha')
        have e2 : (fun k => vec (addm left[i] (-q) left[a]) k + q * vec left[a] k) = vec v := by
          rw [addm_vec hll, ← e]; funext k; grind
        rw [e2] at h2; exact h2
      · refine .gen v ?_
        have : (left.set i (addm left[i] (-q) left[a]))[j]'(by rw [List.length_set]; exact hj) = v := by rw [List.getElem_set_ne ej, e]
        rw [← this]; exact List.getElem_mem _
  · obtain ⟨M, hM0, hM, hB⟩ := G.sz
    refine ⟨M * (1 + q), Int.mul_nonneg hM0 (by omega), fun v hv' x hx => ?_, ?_⟩
    · have hle : M ≤ M * (1 + q) := by
        have := Int.mul_nonneg hM0 hq0
        rw [Int.mul_add, Int.mul_one]; omega
      rcases List.mem_or_eq_of_mem_set hv' with z | z
      · have := hM v z x hx; omega
      · rw [z] at hx
        obtain ⟨p, hp, e⟩ := List.mem_map.mp hx
        obtain ⟨hp1, hp2⟩ := List.of_mem_zip hp
        have b1 := hM _ (List.getElem_mem hi) _ hp1
        have b2 := hM _ (List.getElem_mem ha) _ hp2
        have b3 : (x.natAbs : Int) ≤ (p.1.natAbs : Int) + q * (p.2.natAbs : Int) := by
          rw [← e]
          have h1 : (p.1 + -q * p.2).natAbs ≤ p.1.natAbs + (-q * p.2).natAbs := Int.natAbs_add_le _ _
          have h2 : (((-q * p.2).natAbs : Nat) : Int) = q * (p.2.natAbs : Int) := by
            rw [Int.natAbs_mul, Int.natCast_mul, Int.natAbs_neg, Int.natAbs_of_nonneg hq0]
          omega
        have b4 : q * (p.2.natAbs : Int) ≤ q * M := Int.mul_le_mul_of_nonneg_left b2 hq0
        have b5 : M * (1 + q) = M + q * M := by grind
        omega
    · have hw := wt_set vs i r hiv
      have hfi : ff (at_ vs i) = 2 * at_ vs i := by unfold ff; rw [if_neg (by omega)]
      have hfr : (1 + q) * ff r ≤ ff (at_ vs i) := by
        rw [hfi]
        unfold ff
        split
        · rename_i z
          subst z
          have : q ≤ at_ vs a * q := by
            have := Int.mul_le_mul_of_nonneg_right (a := 1) (b := at_ vs a) (c := q) (by omega) hq0
            omega
          omega
        · have h1 : r * q ≤ at_ vs a * q := Int.mul_le_mul_of_nonneg_right (by omega) hq0
          have h2 : (1 + q) * (2 * r) = 2 * (r + r * q) := by grind
          rw [h2]; omega
      have hf0 : 0 < ff (at_ vs i) := by rw [hfi]; omega
      have hfr0 := ff_pos hr0
      have hwp : 1 ≤ wt vs := wt_pos fun v hv => (G.v0 v hv).1
      -- M (1+q) wt' ff(vi) = M (1+q) ff r wt <= M ff(vi) wt
      refine Int.le_of_mul_le_mul_right ?_ hf0
      calc M * (1 + q) * wt (vs.set i r) * ff (at_ vs i) = M * wt vs * ((1 + q) * ff r) := by rw [Int.mul_assoc, hw]; grind
        _ ≤ M * wt vs * ff (at_ vs i) := Int.mul_le_mul_of_nonneg_left hfr (Int.mul_nonneg hM0 (by omega))
        _ ≤ B * ff (at_ vs i) := Int.mul_le_mul_of_nonneg_right hB (by omega)
end NT
/-! M7 -/
set_option Elab.async false
set_option linter.all false
set_option maxHeartbeats 2100000
set_option maxRecDepth 10000
/-! gathered_steps: what it hands back; narrowed -/
namespace NT
theorem GInv.start {st : List (List Int)} {row : List Int} {m B : Int} {M : Int} (hl : ∀ v ∈ st, v.length = row.length) (hm : 0 < m) (hM0 : 0 ≤ M) (hM : ∀ v ∈ st, ∀ x ∈ v, (x.natAbs : Int) ≤ M) (hB : M * (2 * m) ^ st.length ≤ B) :
    GInv st row m B st (st.map fun v => dt row v % m) where
  l1 := rfl
  l2 := by rw [List.length_map]
  l3 := hl
  v0 := fun v hv => by
    obtain ⟨u, _, rfl⟩ := List.mem_map.mp hv
    exact ⟨Int.emod_nonneg _ (by omega), Int.emod_lt_of_pos _ hm⟩
  cg := fun j hj => by
    have e : at_ (st.map fun v => dt row v % m) j = dt row st[j] % m := by simp [at_, List.getD, hj]
    rw [e]; exact mod_dvd _ _
  sp := fun y => Iff.rfl
  sz := ⟨M, hM0, hM, by
    have h1 := wt_le (vs := st.map fun v => dt row v % m) (m := m) (by omega) fun v hv => by
      obtain ⟨u, _, rfl⟩ := List.mem_map.mp hv
      have h1 := Int.emod_nonneg (dt row u) (by omega : m ≠ 0)
      have h2 := Int.emod_lt_of_pos (dt row u) hm
      exact ⟨h1, Int.le_of_lt h2⟩
    rw [List.length_map] at h1
    have := Int.mul_le_mul_of_nonneg_left h1 hM0
    omega⟩
/-- one value at most is not 0 -/
theorem one_left : ∀ {vs : List Int} {a : Nat}, (vs.filter fun v => !decide (v = 0)).length ≤ 1 → at_ vs a ≠ 0 → ∀ j, j ≠ a → at_ vs j = 0
  | [], _, _, _, j, _ => by simp [at_]
  | v :: vs, 0, h, ha, j, hj => by
    have ha' : v ≠ 0 := by simpa [at_] using ha
    have e : ((v :: vs).filter fun v => !decide (v = 0)) = v :: vs.filter fun v => !decide (v = 0) := by simp [ha']
    rw [e, List.length_cons] at h
    have h2 : vs.filter (fun v => !decide (v = 0)) = [] := List.eq_nil_of_length_eq_zero (by omega)
    obtain ⟨k, rfl⟩ : ∃ k, j = k + 1 := ⟨j - 1, by omega⟩
    have e2 : at_ (v :: vs) (k + 1) = at_ vs k := by simp [at_]
    rw [e2]
    rcases at_mem (c := vs) k with z | z
    · have := List.filter_eq_nil_iff.mp h2 _ z
      simpa using this
    · exact z
  | v :: vs, a + 1, h, ha, j, hj => by
    have ha' : at_ vs a ≠ 0 := by simpa [at_] using ha
    have hmem : at_ vs a ∈ vs.filter fun v => !decide (v = 0) := by
      rcases at_mem (c := vs) a with z | z
      · exact List.mem_filter.mpr ⟨z, by rw [decide_eq_false ha']; rfl⟩
      · exact absurd z ha'
    have hpos : 0 < (vs.filter fun v => !decide (v = 0)).length := List.length_pos_of_mem hmem
    by_cases hv : v = 0
    · have e : ((v :: vs).filter fun v => !decide (v = 0)) = vs.filter fun v => !decide (v = 0) := by simp [hv]
      rw [e] at h
      cases j with
      | zero => simp [at_, hv]
      | succ k =>
        have e2 : at_ (v :: vs) (k + 1) = at_ vs k := by simp [at_]
        rw [e2]; exact one_left h ha' k (by omega)
    · have e : ((v :: vs).filter fun v => !decide (v = 0)) = v :: vs.filter fun v => !decide (v = 0) := by simp [hv]
      rw [e, List.length_cons] at h
      omega
theorem two_there : ∀ {vs : List Int} {a : Nat}, (∀ j, j ≠ a → at_ vs j = 0) → (vs.filter fun v => !decide (v = 0)).length ≤ 1
  | [], _, _ => by simp
  | v :: vs, 0, h => by
    have h2 : vs.filter (fun v => !decide (v = 0)) = [] := List.filter_eq_nil_iff.mpr fun x hx => by
      obtain ⟨i, e⟩ := mem_at hx
      have := h (i + 1) (by omega)
      have e2 : at_ (v :: vs) (i + 1) = at_ vs i := by simp [at_]
      rw [e2, e] at this
      simp [this]
    rw [List.filter_cons, h2]; split <;> simp
  | v :: vs, a + 1, h => by
    have hv : v = 0 := by simpa [at_] using h 0 (by omega)
    have e : ((v :: vs).filter fun v => !decide (v = 0)) = vs.filter fun v => !decide (v = 0) := by simp [hv]
    rw [e]
    refine two_there (a := a) fun j hj => ?_
    have := h (j + 1) (by omega)
    simpa [at_] using this
/-- the sum falls -/
theorem sum_lt : ∀ {a b : List Int}, a.length = b.length → (∀ i, at_ a i ≤ at_ b i) → (∃ i, at_ a i < at_ b i) → a.sum < b.sum := by
  have le : ∀ {a b : List Int}, a.length = b.length → (∀ i, at_ a i ≤ at_ b i) → a.sum ≤ b.sum := by
    intro a
    induction a with
    | nil => intro b h _; rw [List.length_eq_zero_iff.mp h.symm]; exact Int.le_refl _
    | cons x a ih =>
      intro b h hle
      cases b with
      | nil => cases h
      | cons y b =>
        have h0 := hle 0
        have h1 := ih (b := b) (by simpa using h) fun i => by
          have := hle (i + 1)
          simpa [at_] using this
        have h0' : x ≤ y := by simpa [at_] using h0
        simp only [List.sum_cons]; omega
  intro a
  induction a with
  | nil => intro b h _ ⟨i, hi⟩; rw [List.length_eq_zero_iff.mp h.symm] at hi; simp [at_] at hi
  | cons x a ih =>
    intro b h hle ⟨i, hi⟩
    cases b with
    | nil => cases h
    | cons y b =>
      have h0 : x ≤ y := by simpa [at_] using hle 0
      have hle' : ∀ i, at_ a i ≤ at_ b i := fun i => by
        have := hle (i + 1)
        simpa [at_] using this
      simp only [List.sum_cons]
      cases i with
      | zero =>
        have h1 : x < y := by simpa [at_] using hi
        have h2 := le (a := a) (b := b) (by simpa using h) hle'
        omega
      | succ i =>
        have h1 : at_ a i < at_ b i := by simpa [at_] using hi
        have h2 := ih (b := b) (by simpa using h) hle' ⟨i, h1⟩
        omega
theorem sum_nn : ∀ {a : List Int}, (∀ x ∈ a, 0 ≤ x) → 0 ≤ a.sum
  | [], _ => by simp
  | x :: a, h => by
    have h1 := h x List.mem_cons_self
    have h2 := sum_nn (a := a) fun y hy => h y (List.mem_cons_of_mem _ hy)
    simp only [List.sum_cons]; omega
/-- what gathered_steps hands back -/
structure GOut (st : List (List Int)) (row : List Int) (m B : Int) (f : List Int) (rest : List (List Int)) (v : Int) : Prop where
  len : (f :: rest).length = st.length
  l3 : ∀ u ∈ f :: rest, u.length = row.length
  v0 : 0 ≤ v
  v1 : v < m
  cf : m ∣ dt row f - v
  cr : ∀ u ∈ rest, m ∣ dt row u
  sp : ∀ y, Spn (f :: rest) y ↔ Spn st y
  sz : ∀ u ∈ f :: rest, ∀ x ∈ u, (x.natAbs : Int) ≤ B
theorem GInv.small {st : List (List Int)} {row : List Int} {m B : Int} {left : List (List Int)} {vs : List Int} (G : GInv st row m B left vs) : ∀ u ∈ left, ∀ x ∈ u, (x.natAbs : Int) ≤ B := fun u hu x hx => by
  obtain ⟨M, h0, h1, h2⟩ := G.sz
  have h3 := h1 u hu x hx
  have h4 : 1 ≤ wt vs := wt_pos fun v hv => (G.v0 v hv).1
  have := Int.mul_le_mul_of_nonneg_left (a := 1) (b := wt vs) (c := M) h4 h0
  omega
theorem swap_mem {α : Type} {l : List α} {a : Nat} {d e : α} (h0 : l[0]? = some d) (ha : l[a]? = some e) (x : α) : x ∈ (l.set 0 e).set a d ↔ x ∈ l := by
  obtain ⟨g0, i0⟩ := List.getElem?_eq_some_iff.mp h0
  obtain ⟨ga, ia⟩ := List.getElem?_eq_some_iff.mp ha
  constructor
  · intro h
    rcases List.mem_or_eq_of_mem_set h with h | h
    · rcases List.mem_or_eq_of_mem_set h with h | h
      · exact h
      · rw [h, ← ia]; exact List.getElem_mem _
    · rw [h, ← i0]; exact List.getElem_mem _
  · intro h
    obtain ⟨j, hj, e1⟩ := List.getElem_of_mem h
    have len : ((l.set 0 e).set a d).length = l.length := by simp
    by_cases ja : j = a
    · subst ja
      -- x = e, stands at 0 unless a = 0
      have hx : x = e := by rw [← e1, ia]
      by_cases j0 : j = 0
      · subst j0
        have hd : d = e := by rw [← i0, ← ia]
        have : ((l.set 0 e).set 0 d)[0]'(by rw [len]; exact g0) = d := List.getElem_set_self _
        have h2 := List.getElem_mem (l := (l.set 0 e).set 0 d) (n := 0) (by rw [len]; exact g0)
        rw [this] at h2
        rw [hx]; exact hd ▸ h2
      · have : ((l.set 0 e).set j d)[0]'(by rw [len]; exact g0) = e := by rw [List.getElem_set_ne j0, List.getElem_set_self]
        rw [hx]
        have h2 := List.getElem_mem (l := (l.set 0 e).set j d) (n := 0) (by rw [len]; exact g0)
        rw [this] at h2; exact h2
    · by_cases j0 : j = 0
      · subst j0
        have hx : x = d := by rw [← e1, i0]
        have : ((l.set 0 e).set a d)[a]'(by rw [len]; exact ga) = d := List.getElem_set_self _
        rw [hx]
        have h2 := List.getElem_mem (l := (l.set 0 e).set a d) (n := a) (by rw [len]; exact ga)
        rw [this] at h2; exact h2
      · have : ((l.set 0 e).set a d)[j]'(by rw [len]; exact hj) = x := by rw [List.getElem_set_ne (Ne.symm ja), List.getElem_set_ne (Ne.symm j0), e1]
        have h2 := List.getElem_mem (l := (l.set 0 e).set a d) (n := j) (by rw [len]; exact hj)
        rw [this] at h2; exact h2
theorem GInv.outAt {st : List (List Int)} {row : List Int} {m B : Int} {left : List (List Int)} {vs : List Int} (G : GInv st row m B left vs) (h1 : (vs.filter fun v => !decide (v = 0)).length ≤ 1) {a : Nat} (ha : at_ vs a ≠ 0) {d e : List Int} (h0 : left[0]? = some d) (he : left[a]? = some e) :
    ∃ f rest, (left.set 0 e).set a d = f :: rest ∧ GOut st row m B f rest (at_ vs a) := by
  obtain ⟨g0, i0⟩ := List.getElem?_eq_some_iff.mp h0
  obtain ⟨ga, ia⟩ := List.getElem?_eq_some_iff.mp he
  have hz := one_left h1 ha
  have len : ((left.set 0 e).set a d).length = left.length := by simp
  have hmem : at_ vs a ∈ vs := by
    rcases at_mem (c := vs) a with z | z
    · exact z
    · exact absurd z ha
  have hv := G.v0 _ hmem
  -- the places
  have key : ∀ j (hj : j < ((left.set 0 e).set a d).length), m ∣ dt row ((left.set 0 e).set a d)[j] - (if j = 0 then at_ vs a else 0) := fun j hj => by
    by_cases j0 : j = 0
    · subst j0
      rw [if_pos rfl]
      have e1 : ((left.set 0 e).set a d)[0] = left[a] := by
        by_cases a0 : a = 0
        · subst a0; rw [List.getElem_set_self, ← i0]
        · rw [List.getElem_set_ne a0, List.getElem_set_self, ia]
      rw [e1]; exact G.cg a ga
    · rw [if_neg j0, Int.sub_zero]
      by_cases ja : j = a
      · subst ja
        rw [List.getElem_set_self, ← i0]
        have := G.cg 0 g0
        rw [hz 0 (Ne.symm j0), Int.sub_zero] at this
        exact this
      · have e1 : ((left.set 0 e).set a d)[j] = left[j]'(by rw [← len]; exact hj) := by rw [List.getElem_set_ne (Ne.symm ja), List.getElem_set_ne (Ne.symm j0)]
        rw [e1]
        have := G.cg j (by rw [← len]; exact hj)
        rw [hz j ja, Int.sub_zero] at this
        exact this
  have hsm := swap_mem h0 he
  cases hl : (left.set 0 e).set a d with
  | nil => rw [hl] at len; simp at len; omega
  | cons f rest =>
    rw [hl] at hsm len
    refine ⟨f, rest, rfl, by rw [len]; exact G.l1, fun u hu => G.l3 u ((hsm u).mp hu), hv.1, hv.2, ?_, fun u hu => ?_, fun y => ?_, fun u hu => G.small u ((hsm u).mp hu)⟩
    · have := key 0 (by rw [hl]; simp)
      simpa [hl] using this
    · obtain ⟨j, hj, e1⟩ := List.getElem_of_mem hu
      have := key (j + 1) (by rw [hl]; simpa using hj)
      simpa [hl, e1] using this
    · rw [← G.sp y]
      exact ⟨Spn.mem fun v hv => (hsm v).mp hv, Spn.mem fun v hv => (hsm v).mpr hv⟩
theorem GInv.out0 {st : List (List Int)} {row : List Int} {m B : Int} {left : List (List Int)} {vs : List Int} (G : GInv st row m B left vs) (hm : 0 < m) (h0 : 0 < st.length) (hz : ∀ j, j < left.length → at_ vs j = 0) :
    ∃ f rest, left = f :: rest ∧ GOut st row m B f rest 0 := by
  cases hl : left with
  | nil =>
    have := G.l1
    rw [hl] at this; simp at this; omega
  | cons f rest =>
    subst hl
    refine ⟨f, rest, rfl, G.l1, G.l3, by omega, hm, ?_, fun u hu => ?_, G.sp, G.small⟩
    · have := G.cg 0 (by simp)
      rw [hz 0 (by simp)] at this
      exact this
    · obtain ⟨j, hj, e1⟩ := List.getElem_of_mem hu
      have := G.cg (j + 1) (by simpa using hj)
      rw [hz (j + 1) (by simpa using hj)] at this
      simpa [e1] using this
/-! ### narrowed -/
/-- no cell of the cell and the steps meets the congruence -/
def NoFit (cell : List Int) (st : List (List Int)) (row : List Int) (r m : Int) : Prop := ∃ h : Int, h ∣ m ∧ (∀ y, Spn st y → h ∣ dtF row y) ∧ ¬ h ∣ r - dt row cell
structure Fit (cell : List Int) (st : List (List Int)) (row : List Int) (r m : Int) (cell' : List Int) (st' : List (List Int)) : Prop where
  lc : cell'.length = row.length
  ls : st'.length = st.length
  l3 : ∀ u ∈ st', u.length = row.length
  ce : ∃ y, Spn st y ∧ vec cell' = fun i => vec cell i + y i
  ok : m ∣ dt row cell' - r
  sub : ∀ y, Spn st' y → Spn st y ∧ m ∣ dtF row y
  all : ∀ y, Spn st y → m ∣ dtF row y → Spn st' y
theorem nofit {cell : List Int} {st : List (List Int)} {row : List Int} {r m B v : Int} {f : List Int} {rest : List (List Int)} (G : GOut st row m B f rest v) (hn : ¬ (r - dt row cell) % m % gcd v m = 0) : NoFit cell st row r m := by
  refine ⟨gcd v m, gcd_dr _ _, fun y hy => ?_, fun h => hn ?_⟩
  · refine Spn.dvd (fun u hu => ?_) ((G.sp y).mpr hy)
    rcases List.mem_cons.mp hu with e | e
    · subst e
      have h1 := Int.dvd_trans (gcd_dr v m) G.cf
      have e : dt row u = (dt row u - v) + v := by omega
      rw [e]; exact Int.dvd_add h1 (gcd_dl v m)
    · exact Int.dvd_trans (gcd_dr v m) (G.cr u e)
  · rw [mod_eq_zero]
    have h1 := Int.dvd_trans (gcd_dr v m) (mod_dvd' (r - dt row cell) m)
    have e : (r - dt row cell) % m = ((r - dt row cell) % m - (r - dt row cell)) + (r - dt row cell) := by omega
    rw [e]; exact Int.dvd_add h1 h
theorem scale_vec (k : Int) (f : List Int) : vec (f.map fun x => k * x) = fun i => k * vec f i := by
  funext i; exact at_map _ (by simp) f i
theorem fit {cell : List Int} {st : List (List Int)} {row : List Int} {r m B v g inv : Int} {f : List Int} {rest : List (List Int)} (G : GOut st row m B f rest v) (hm : 0 < m) (hlc : cell.length = row.length) (hg : g = gcd v m) (h0 : (r - dt row cell) % m % g = 0)
    (hi : m / g ∣ (v / g) * inv - 1) : Fit cell st row r m (addm cell ((r - dt row cell) % m / g * inv % (m / g)) f) ((f.map fun x => m / g * x) :: rest) := by
  have hgp : 0 < g := by rw [hg]; exact gcd_pos (by omega)
  obtain ⟨o, ho⟩ : g ∣ m := by rw [hg]; exact gcd_dr v m
  obtain ⟨w, hw⟩ : g ∣ v := by rw [hg]; exact gcd_dl v m
  obtain ⟨q, hq⟩ := mod_eq_zero.mp h0
  have eo : m / g = o := by rw [ho]; exact Int.mul_ediv_cancel_left _ (by omega)
  have ew : v / g = w := by rw [hw]; exact Int.mul_ediv_cancel_left _ (by omega)
  have eq1 : (r - dt row cell) % m / g = q := by rw [hq]; exact Int.mul_ediv_cancel_left _ (by omega)
  have hlf : f.length = row.length := G.l3 f List.mem_cons_self
  rw [eo, ew] at hi
  rw [eq1, eo]
  obtain ⟨i1, hi1⟩ := hi
  obtain ⟨n1, hn1⟩ := mod_dvd (q * inv) o
  generalize hmany : q * inv % o = many at *
  obtain ⟨c1, hc1⟩ := G.cf
  obtain ⟨d1, hd1⟩ := mod_dvd (r - dt row cell) m
  have hlen : cell.length = f.length := by rw [hlc, hlf]
  refine ⟨by rw [addm_len hlen, hlc], ?_, fun u hu => ?_, ⟨fun i => many * vec f i, .smul many _ ((G.sp _).mp (.gen f List.mem_cons_self)), addm_vec hlen⟩, ?_, fun y hy => ⟨?_, ?_⟩, fun y hy hd => ?_⟩
  · have := G.len; simpa using this
  · rcases List.mem_cons.mp hu with e | e
    · rw [e, List.length_map, hlf]
    · exact G.l3 u (List.mem_cons_of_mem _ e)
  · rw [dt_addm hlen]
    -- dt cell + many dt f - r ; many = q inv - o n1; dt f = v + m c1; v = g w; m = g o
    refine ⟨many * c1 - n1 * w + q * i1 - d1, ?_⟩
    have e1 : dt row f = g * w + m * c1 := by rw [← hw]; omega
    have e2 : many = q * inv - o * n1 := by omega
    have e3 : r = dt row cell + m * d1 + g * q := by omega
    have e4 : w * inv = 1 + o * i1 := by omega
    rw [e3, e1]
    have e5 : dt row cell + many * (g * w + m * c1) - (dt row cell + m * d1 + g * q) = many * g * w + m * (many * c1) - m * d1 - g * q := by grind
    rw [e5]
    have e6 : many * g * w = g * q * (w * inv) - g * o * n1 * w := by rw [e2]; grind
    rw [e6, e4, ho]; grind
  · refine (G.sp y).mp (hy.sub fun u hu => ?_)
    rcases List.mem_cons.mp hu with e | e
    · rw [e, scale_vec]; exact .smul _ _ (.gen f List.mem_cons_self)
    · exact .gen u (List.mem_cons_of_mem _ e)
  · refine hy.dvd fun u hu => ?_
    rcases List.mem_cons.mp hu with e | e
    · rw [e, dt_vec, scale_vec, dtF_smul, ← dt_vec]
      refine ⟨w + o * c1, ?_⟩
      have e1 : dt row f = g * w + m * c1 := by rw [← hw]; omega
      rw [e1, ho]; grind
    · exact G.cr u e
  · obtain ⟨k, z, hz, ey⟩ := ((G.sp y).mpr hy).split
    have hzd : m ∣ dtF row z := hz.dvd G.cr
    have e1 : dtF row y = k * dt row f + dtF row z := by rw [ey, dtF_add, dtF_smul, ← dt_vec]
    have hkf : m ∣ k * v := by
      have h1 : k * v = dtF row y - dtF row z - k * (dt row f - v) := by rw [e1]; grind
      rw [h1]
      exact Int.dvd_sub (Int.dvd_sub hd hzd) (Int.dvd_mul_of_dvd_right G.cf)
    have hok : o ∣ k := by
      obtain ⟨u, hu⟩ := hkf
      rw [hw, ho] at hu
      have hu2 : g * (k * w) = g * (o * u) := by rw [← Int.mul_assoc g o u, ← hu]; grind
      have hu3 : k * w = o * u := Int.eq_of_mul_eq_mul_left (by omega) hu2
      refine ⟨u * inv - k * i1, ?_⟩
      have e4 : k = k * (w * inv) - k * (w * inv - 1) := by grind
      rw [e4, hi1, ← Int.mul_assoc, hu3]; grind
    obtain ⟨k', hk'⟩ := hok
    have h1 : Spn ((f.map fun x => o * x) :: rest) (fun i => k' * vec (f.map fun x => o * x) i + z i) := by
      refine .add (fun i => k' * vec (f.map fun x => o * x) i) z (.smul _ _ (.gen _ List.mem_cons_self)) (hz.mem fun u hu => List.mem_cons_of_mem _ hu)
    have e2 : (fun i => k' * vec (f.map fun x => o * x) i + z i) = y := by
      rw [ey, scale_vec, hk']; funext i; grind
    rw [e2] at h1; exact h1
end NT
/-! M8 -/
set_option Elab.async false
set_option linter.all false
set_option maxHeartbeats 2100000
set_option maxRecDepth 10000
/-! meets and never -/
namespace NT
def ev (i : Nat) : Vc := fun a => if a = i then 1 else 0
def units (d : Nat) : List (List Int) := (List.range d).map fun i => (List.range d).map fun a => if a = i then (1 : Int) else 0
theorem ev_mem {d i : Nat} (h : i < d) : Spn (units d) (ev i) := by
  have h1 : ((List.range d).map fun a => if a = i then (1 : Int) else 0) ∈ units d := List.mem_map.mpr ⟨i, List.mem_range.mpr h, rfl⟩
  have h2 := Spn.gen (vs := units d) _ h1
  have e : vec ((List.range d).map fun a => if a = i then (1 : Int) else 0) = ev i := by
    funext a
    unfold vec ev at_ List.getD
    rw [List.getElem?_map]
    by_cases ha : a < d
    · rw [List.getElem?_range ha]; rfl
    · rw [List.getElem?_eq_none (by rw [List.length_range]; omega), if_neg (by omega)]; rfl
  rw [e] at h2; exact h2
theorem dtF_ev : ∀ (c : List Int) (i : Nat), dtF c (ev i) = at_ c i
  | [], i => by simp [dtF, at_]
  | a :: c, 0 => by
    have e : (fun j => ev 0 (j + 1)) = fun _ => 0 := by funext j; simp [ev]
    show a * ev 0 0 + dtF c (fun j => ev 0 (j + 1)) = _
    rw [e, dtF_zero]; simp [ev, at_]
  | a :: c, i + 1 => by
    have e : (fun j => ev (i + 1) (j + 1)) = ev i := by funext j; simp [ev]
    show a * ev (i + 1) 0 + dtF c (fun j => ev (i + 1) (j + 1)) = _
    rw [e, dtF_ev c i]; simp [ev, at_]
theorem dtF_dv {g κ : Int} : ∀ {c b : List Int}, c.length = b.length → Dv g b κ c → ∀ y, g ∣ dtF b y - κ * dtF c y
  | [], [], _, _, y => by simp [dtF]
  | a :: c, x :: b, hl, h, y => by
    have ih := dtF_dv (c := c) (b := b) (by simpa using hl) (fun i => by
      have := h (i + 1)
      simpa [at_] using this) fun i => y (i + 1)
    have h0 : g ∣ x - κ * a := by simpa [at_] using h 0
    obtain ⟨u, hu⟩ := ih
    obtain ⟨v, hv⟩ := h0
    refine ⟨u + v * y 0, ?_⟩
    show x * y 0 + dtF b (fun i => y (i + 1)) - κ * (a * y 0 + dtF c fun i => y (i + 1)) = _
    have e : x * y 0 + dtF b (fun i => y (i + 1)) - κ * (a * y 0 + dtF c fun i => y (i + 1)) = (dtF b (fun i => y (i + 1)) - κ * dtF c fun i => y (i + 1)) + (x - κ * a) * y 0 := by grind
    rw [e, hu, hv]; grind
theorem at_ge {c : List Int} {i : Nat} (h : c.length ≤ i) : at_ c i = 0 := by simp [at_, List.getD, h]
theorem sum_dvd {h x y : Int} : ∀ (l c b : List Int), c.length = b.length → (∀ j, h ∣ x * at_ c j - y * at_ b j) → h ∣ x * dt l c - y * dt l b
  | [], c, b, _, _ => by simp [dt]
  | a :: l, [], [], _, _ => by simp [dt]
  | a :: l, u :: c, v :: b, hl, H => by
    have ih := sum_dvd l c b (by simpa using hl) fun j => by
      have := H (j + 1)
      simpa [at_] using this
    have h0 : h ∣ x * u - y * v := by simpa [at_] using H 0
    have e1 : dt (a :: l) (u :: c) = a * u + dt l c := by simp [dt]
    have e2 : dt (a :: l) (v :: b) = a * v + dt l b := by simp [dt]
    rw [e1, e2]
    obtain ⟨p, hp⟩ := ih
    obtain ⟨q, hq⟩ := h0
    refine ⟨p + a * q, ?_⟩
    have e : x * (a * u + dt l c) - y * (a * v + dt l b) = (x * dt l c - y * dt l b) + a * (x * u - y * v) := by grind
    rw [e, hp, hq]; grind
/-- a divisor of a product of powers, by its powers -/
theorem split_pow {p : Nat} (hp : p ∈ PL) {R : Int} (hR : Cop (p : Int) R) : ∀ (n : Nat) (h : Int), h ∣ (p : Int) ^ n * R → ∃ j h', h = (p : Int) ^ j * h' ∧ h' ∣ R
  | 0, h, hd => ⟨0, h, by rw [Int.pow_zero, Int.one_mul], by rwa [Int.pow_zero, Int.one_mul] at hd⟩
  | n + 1, h, hd => by
    rcases prime_or hp h with hc | hc
    · refine ⟨0, h, by rw [Int.pow_zero, Int.one_mul], ?_⟩
      exact (Cop.pow_right hc.symm (n + 1)).dvd hd
    · obtain ⟨h1, e⟩ := hc
      have h2 : h1 ∣ (p : Int) ^ n * R := by
        obtain ⟨u, hu⟩ := hd
        refine ⟨u, ?_⟩
        have hp0 : (p : Int) ≠ 0 := by have := PL_two hp; omega
        refine Int.eq_of_mul_eq_mul_left hp0 ?_
        have e2 : (p : Int) * ((p : Int) ^ n * R) = (p : Int) ^ (n + 1) * R := by rw [Int.pow_succ]; grind
        rw [e2, hu, e]; grind
      obtain ⟨j, h', e2, e3⟩ := split_pow hp hR n h1 h2
      exact ⟨j + 1, h', by rw [e, e2, Int.pow_succ]; grind, e3⟩
theorem dvd_pr {f t : Nat → Nat} : ∀ {L : List Nat} {h : Int}, (∀ p ∈ L, p ∈ PL) → L.Nodup → h ∣ pr f L → (∀ p ∈ L, ∀ j, (p : Int) ^ j ∣ h → j ≤ t p) → h ∣ pr t L
  | [], h, _, _, hd, _ => hd
  | p :: L, h, hL, nd, hd, ht => by
    obtain ⟨n1, n2⟩ : _ ∧ _ := List.nodup_cons.mp nd
    have hp := hL p List.mem_cons_self
    rw [pr_cons] at hd ⊢
    obtain ⟨j, h', e, hd'⟩ := split_pow hp (pr_cop f hp (fun q hq => hL q (List.mem_cons_of_mem _ hq)) n1) (f p) h hd
    subst e
    refine Int.mul_dvd_mul (pow_dvd (ht p List.mem_cons_self j (Int.dvd_mul_right ..))) ?_
    exact dvd_pr (fun q hq => hL q (List.mem_cons_of_mem _ hq)) n2 hd' fun q hq i hi => ht q (List.mem_cons_of_mem _ hq) i (Int.dvd_mul_of_dvd_right hi)
/-- what divides b over the cells of the first row divides G -/
theorem never_h {e f : Nat → Nat} {c b : List Int} {t : Nat → Nat} {κ h : Int} (hl : c.length = b.length) (uc : Uni (pr e PL) c) (ub : Uni (pr f PL) b) (R : Rel e f c b t κ) (hn : h ∣ pr f PL)
    (H : ∀ y, Spn (units c.length) y → pr e PL ∣ dtF c y → h ∣ dtF b y) : h ∣ pr t PL := by
  have pe := pr_pos e (L := PL) fun p hp => hp
  have pf := pr_pos f (L := PL) fun p hp => hp
  have hm : h ∣ pr e PL := by
    refine ub.cancel (Int.le_of_lt pf) hn fun i => ?_
    by_cases hi : i < c.length
    · have h1 := H (fun a => pr e PL * ev i a) (.smul _ _ (ev_mem hi)) (by rw [dtF_smul]; exact Int.dvd_mul_right ..)
      rw [dtF_smul, dtF_ev] at h1; exact h1
    · rw [at_ge (by omega), Int.mul_zero]; exact Int.dvd_zero _
  have hx : ∀ i j, h ∣ at_ b i * at_ c j - at_ c i * at_ b j := fun i j => by
    by_cases hi : i < c.length
    · by_cases hj : j < c.length
      · have h1 := H (fun a => at_ c j * ev i a + -(at_ c i) * ev j a) (.add _ _ (.smul _ _ (ev_mem hi)) (.smul _ _ (ev_mem hj))) (by
          rw [dtF_add c (fun a => at_ c j * ev i a) fun a => -(at_ c i) * ev j a, dtF_smul, dtF_smul, dtF_ev, dtF_ev]
          exact ⟨0, by grind⟩)
        rw [dtF_add b (fun a => at_ c j * ev i a) fun a => -(at_ c i) * ev j a, dtF_smul, dtF_smul, dtF_ev, dtF_ev] at h1
        have e1 : at_ b i * at_ c j - at_ c i * at_ b j = at_ c j * at_ b i + -at_ c i * at_ b j := by grind
        rw [e1]; exact h1
      · rw [at_ge (c := c) (i := j) (by omega), at_ge (c := b) (i := j) (by omega)]
        exact ⟨0, by grind⟩
    · rw [at_ge (c := c) (i := i) (by omega), at_ge (c := b) (i := i) (by omega)]
      exact ⟨0, by grind⟩
  obtain ⟨z, l, ll, hb⟩ := gcdL_bez c (pr e PL)
  rw [uc.gcdL (Int.le_of_lt pe)] at hb
  have hb' : pr e PL * z + dt l c = 1 := hb
  have hk : Dv h b (dt l b) c := fun i => by
    have h1 := sum_dvd (h := h) (x := at_ b i) (y := at_ c i) l c b hl fun j => hx i j
    obtain ⟨u, hu⟩ := h1
    obtain ⟨v, hv⟩ := hm
    refine ⟨v * z * at_ b i + u, ?_⟩
    have e1 : at_ b i - dt l b * at_ c i = (pr e PL * z + dt l c) * at_ b i - dt l b * at_ c i := by rw [hb']; omega
    have e2 : (pr e PL * z + dt l c) * at_ b i - dt l b * at_ c i = pr e PL * z * at_ b i + (at_ b i * dt l c - at_ c i * dt l b) := by grind
    rw [e1, e2, hu, hv]; grind
  refine dvd_pr (f := f) (fun p hp => hp) PL_nodup hn fun p hp j hj => ?_
  exact R.mx p hp j (pow_part e hp (Int.dvd_trans hj hm)) (pow_part f hp (Int.dvd_trans hj hn)) (dt l b) (hk.mono hj)
/-- what NEVER rests on -/
def NeverP (m : Int) (c : List Int) (r n : Int) (b : List Int) (s : Int) : Prop := ∃ h : Int, h ∣ n ∧ (∀ y, Spn (units c.length) y → m ∣ dtF c y → h ∣ dtF b y) ∧ ∃ x, m ∣ dtF c x - r ∧ ¬ h ∣ s - dtF b x
theorem meet_dvd {e f : Nat → Nat} {c b : List Int} {t : Nat → Nat} {κ r s : Int} (hl : c.length = b.length) (R : Rel e f c b t κ) {x : Vc} (h1 : pr e PL ∣ dtF c x - r) : pr t PL ∣ (s - κ * r) - (s - dtF b x) := by
  obtain ⟨u, hu⟩ := dtF_dv hl R.dv x
  obtain ⟨v, hv⟩ := Int.dvd_trans R.dm h1
  refine ⟨u + κ * v, ?_⟩
  have e1 : (s - κ * r) - (s - dtF b x) = (dtF b x - κ * dtF c x) + κ * (dtF c x - r) := by grind
  rw [e1, hu, hv]; grind
theorem never_law {e f : Nat → Nat} {c b : List Int} {t : Nat → Nat} {κ r s : Int} (hl : c.length = b.length) (uc : Uni (pr e PL) c) (ub : Uni (pr f PL) b) (R : Rel e f c b t κ) (N : NeverP (pr e PL) c r (pr f PL) b s) : ¬ pr t PL ∣ s - κ * r := fun hG => by
  obtain ⟨h, hn, H, x, h1, h2⟩ := N
  have h3 := never_h hl uc ub R hn H
  have h4 := meet_dvd (s := s) hl R h1
  refine h2 (Int.dvd_trans h3 ?_)
  have e1 : s - dtF b x = (s - κ * r) - ((s - κ * r) - (s - dtF b x)) := by omega
  rw [e1]; exact Int.dvd_sub hG h4
theorem meet_law {e f : Nat → Nat} {c b cell : List Int} {t : Nat → Nat} {κ r s : Int} (hl : c.length = b.length) (R : Rel e f c b t κ) (h1 : pr e PL ∣ dt c cell - r) (h2 : pr f PL ∣ dt b cell - s) : pr t PL ∣ s - κ * r := by
  rw [dt_vec] at h1 h2
  have h4 := meet_dvd (s := s) hl R h1
  have h5 := dvd_sub_comm (Int.dvd_trans R.dn h2)
  have e1 : s - κ * r = ((s - κ * r) - (s - dtF b (vec cell))) + (s - dtF b (vec cell)) := by omega
  rw [e1]; exact Int.dvd_add h4 h5
/-! ### the bars -/
def lcm (m n : Int) : Int := m / gcd m n * n
theorem lcm_eq {m n : Int} (hm : 0 < m) (hn : 0 < n) : ∃ g u v, 0 < g ∧ 0 < u ∧ 0 < v ∧ m = g * u ∧ n = g * v ∧ lcm m n = g * u * v ∧ lcm m n / m = v ∧ lcm m n / n = u ∧ 0 < lcm m n := by
  have hg : 0 < gcd m n := gcd_pos (by omega)
  obtain ⟨u, hu⟩ := gcd_dl m n
  obtain ⟨v, hv⟩ := gcd_dr m n
  have hu0 : 0 < u := by
    rcases Int.lt_or_le 0 u with h | h
    · exact h
    · have := Int.mul_le_mul_of_nonneg_left (a := u) (b := 0) (c := gcd m n) h (by omega)
      omega
  have hv0 : 0 < v := by
    rcases Int.lt_or_le 0 v with h | h
    · exact h
    · have := Int.mul_le_mul_of_nonneg_left (a := v) (b := 0) (c := gcd m n) h (by omega)
      omega
  have e1 : m / gcd m n = u := Int.ediv_eq_of_eq_mul_right (by omega) hu
  have e2 : lcm m n = gcd m n * u * v := by unfold lcm; rw [e1]; rw [Int.mul_assoc, Int.mul_left_comm, ← hv]
  have hP : 0 < gcd m n * u * v := Int.mul_pos (Int.mul_pos hg hu0) hv0
  refine ⟨gcd m n, u, v, hg, hu0, hv0, hu, hv, e2, ?_, ?_, by rw [e2]; exact hP⟩
  · refine Int.ediv_eq_of_eq_mul_right (by omega) ?_
    rw [e2]
    exact congrArg (· * v) hu.symm
  · refine Int.ediv_eq_of_eq_mul_right (by omega) ?_
    rw [e2]
    have : gcd m n * u * v = gcd m n * v * u := by grind
    rw [this]
    exact congrArg (· * u) hv.symm
/-- the vector of the relation bars -/
theorem bar_ex {e f : Nat → Nat} {c b : List Int} {t : Nat → Nat} {κ r s : Int} (R : Rel e f c b t κ) (hn : ¬ pr t PL ∣ s - κ * r) {st : List (List Int)} {d : Nat}
    (hs : ∀ y, Spn (units 2) y → (∀ j, j < d → lcm (pr e PL) (pr f PL) ∣ dtF [lcm (pr e PL) (pr f PL) / pr e PL * at_ c j, lcm (pr e PL) (pr f PL) / pr f PL * at_ b j] y) → Spn st y) :
    ∃ u ∈ st, ¬ lcm (pr e PL) (pr f PL) ∣ dt [lcm (pr e PL) (pr f PL) / pr e PL * r, lcm (pr e PL) (pr f PL) / pr f PL * s] u := by
  apply Classical.byContradiction
  intro hno
  have pe := pr_pos e (L := PL) fun p hp => hp
  have pf := pr_pos f (L := PL) fun p hp => hp
  have pt := pr_pos t (L := PL) fun p hp => hp
  obtain ⟨g, u, v, g0, u0, v0, em, en, eP, e1, e2, P0⟩ := lcm_eq pe pf
  obtain ⟨m', hm'⟩ := R.dm
  obtain ⟨n', hn'⟩ := R.dn
  -- y = (-κ m', n')
  have hy : Spn (units 2) (fun a => -(κ * m') * ev 0 a + n' * ev 1 a) := .add _ _ (.smul _ _ (ev_mem (by decide))) (.smul _ _ (ev_mem (by decide)))
  have hval : ∀ x z : Int, dtF [x, z] (fun a => -(κ * m') * ev 0 a + n' * ev 1 a) = -(κ * m') * x + n' * z := fun x z => by
    rw [dtF_add [x, z] (fun a => -(κ * m') * ev 0 a) fun a => n' * ev 1 a, dtF_smul, dtF_smul, dtF_ev, dtF_ev]
    simp [at_]
  -- v m' = u n' * 1 = P / G
  have hmn : v * m' = u * n' := by
    have h1 : pr t PL * (v * m') = pr t PL * (u * n') := by
      have a1 : pr t PL * (v * m') = v * pr e PL := by rw [hm']; grind
      have a2 : pr t PL * (u * n') = u * pr f PL := by rw [hn']; grind
      rw [a1, a2, em, en]; grind
    exact Int.eq_of_mul_eq_mul_left (by omega) h1
  have hPt : lcm (pr e PL) (pr f PL) = pr t PL * (v * m') := by
    have a1 : pr t PL * (v * m') = v * pr e PL := by rw [hm']; grind
    rw [a1, eP, em]; grind
  have hin := hs _ hy fun j _ => by
    rw [hval, e1, e2]
    obtain ⟨q, hq⟩ := R.dv j
    refine ⟨q, ?_⟩
    have a1 : -(κ * m') * (v * at_ c j) + n' * (u * at_ b j) = (v * m') * (at_ b j - κ * at_ c j) := by
      have : n' * (u * at_ b j) = (u * n') * at_ b j := by grind
      rw [this, ← hmn]; grind
    rw [a1, hq, hPt]; grind
  have hd : lcm (pr e PL) (pr f PL) ∣ dtF [lcm (pr e PL) (pr f PL) / pr e PL * r, lcm (pr e PL) (pr f PL) / pr f PL * s] (fun a => -(κ * m') * ev 0 a + n' * ev 1 a) := by
    refine hin.dvd fun w hw => ?_
    apply Classical.byContradiction
    intro hne
    exact hno ⟨w, hw, hne⟩
  rw [hval, e1, e2] at hd
  have a1 : -(κ * m') * (v * r) + n' * (u * s) = (v * m') * (s - κ * r) := by
    have : n' * (u * s) = (u * n') * s := by grind
    rw [this, ← hmn]; grind
  rw [a1, hPt] at hd
  obtain ⟨q, hq⟩ := hd
  have hvm : v * m' ≠ 0 := by
    intro z
    rw [z, Int.mul_zero] at hPt
    omega
  refine hn ⟨q, ?_⟩
  refine Int.eq_of_mul_eq_mul_left hvm ?_
  rw [hq]; grind
/-- what a step of the relation says, by the numbers that stand in the bar -/
theorem bar_says {m n r s x y : Int} {c b : List Int} (hm : 0 < m) (hn : 0 < n) (hl : c.length = b.length) (uc : Uni m c) (ub : Uni n b)
    (hr : ∀ j, j < c.length → lcm m n ∣ dt [lcm m n / m * at_ c j, lcm m n / n * at_ b j] [x, y]) (hne : ¬ lcm m n ∣ dt [lcm m n / m * r, lcm m n / n * s] [x, y]) :
    x % m ≠ 0 ∧ y % n ≠ 0 ∧ (∀ j, m * n ∣ x % m * n * at_ c j + y % n * m * at_ b j) ∧ ¬ m * n ∣ x % m * n * r + y % n * m * s := by
  obtain ⟨g, u, v, g0, u0, v0, em, en, eP, e1, e2, P0⟩ := lcm_eq hm hn
  rw [e1, e2] at hne
  have hd : ∀ p q : Int, dt [p, q] [x, y] = p * x + q * y := fun p q => by simp [dt]
  rw [hd] at hne
  have hr' : ∀ j, lcm m n ∣ v * at_ c j * x + u * at_ b j * y := fun j => by
    by_cases hj : j < c.length
    · have := hr j hj
      rw [e1, e2, hd] at this; exact this
    · rw [at_ge (c := c) (i := j) (by omega), at_ge (c := b) (i := j) (by omega)]
      exact ⟨0, by grind⟩
  have emP : lcm m n = v * m := by rw [eP, em]; grind
  have enP : lcm m n = u * n := by rw [eP, en]; grind
  have hmx : ¬ m ∣ x := fun ⟨w, hw⟩ => by
    -- then n | y b_j
    have h1 : n ∣ y := by
      refine ub.cancel (Int.le_of_lt hn) (Int.dvd_refl _) fun j => ?_
      obtain ⟨q, hq⟩ := hr' j
      refine ⟨q - at_ c j * w, ?_⟩
      refine Int.eq_of_mul_eq_mul_left (a := u) (by omega) ?_
      have a1 : u * (y * at_ b j) = (v * at_ c j * x + u * at_ b j * y) - at_ c j * w * (v * m) := by rw [hw]; grind
      rw [a1, hq, ← emP, enP]; grind
    obtain ⟨z, hz⟩ := h1
    refine hne ⟨r * w + s * z, ?_⟩
    have a1 : v * r * x + u * s * y = r * w * (v * m) + s * z * (u * n) := by rw [hw, hz]; grind
    rw [a1, ← emP, ← enP]; grind
  have hny : ¬ n ∣ y := fun ⟨w, hw⟩ => by
    have h1 : m ∣ x := by
      refine uc.cancel (Int.le_of_lt hm) (Int.dvd_refl _) fun j => ?_
      obtain ⟨q, hq⟩ := hr' j
      refine ⟨q - at_ b j * w, ?_⟩
      refine Int.eq_of_mul_eq_mul_left (a := v) (by omega) ?_
      have a1 : v * (x * at_ c j) = (v * at_ c j * x + u * at_ b j * y) - at_ b j * w * (u * n) := by rw [hw]; grind
      rw [a1, hq, ← enP, emP]; grind
    exact hmx h1
  obtain ⟨x1, hx1⟩ := mod_dvd x m
  obtain ⟨y1, hy1⟩ := mod_dvd y n
  have ex : x % m = x - m * x1 := by omega
  have ey : y % n = y - n * y1 := by omega
  have key : ∀ p q : Int, m * n ∣ x % m * n * p + y % n * m * q ↔ lcm m n ∣ v * p * x + u * q * y := fun p q => by
    have a1 : x % m * n * p + y % n * m * q = g * (v * p * x + u * q * y) - m * n * (x1 * p + y1 * q) := by
      have b1 : x * n * p = g * (v * p * x) := by rw [en]; grind
      have b2 : y * m * q = g * (u * q * y) := by rw [em]; grind
      rw [ex, ey]
      have b3 : (x - m * x1) * n * p + (y - n * y1) * m * q = x * n * p + y * m * q - m * n * (x1 * p + y1 * q) := by grind
      rw [b3, b1, b2]; grind
    have a2 : m * n = g * lcm m n := by rw [eP, em, en]; grind
    rw [a1]
    constructor
    · intro ⟨w, hw⟩
      refine ⟨w + (x1 * p + y1 * q), ?_⟩
      refine Int.eq_of_mul_eq_mul_left (a := g) (by omega) ?_
      have b4 : g * (v * p * x + u * q * y) = m * n * w + m * n * (x1 * p + y1 * q) := by omega
      rw [b4, a2]; grind
    · intro ⟨w, hw⟩
      refine ⟨w - (x1 * p + y1 * q), ?_⟩
      rw [hw, a2]; grind
  refine ⟨fun z => hmx (mod_eq_zero.mp z), fun z => hny (mod_eq_zero.mp z), fun j => (key _ _).mpr (hr' j), fun z => hne ((key _ _).mp z)⟩
end NT
/-! M9 -/
set_option Elab.async false
set_option linter.all false
set_option maxHeartbeats 2100000
set_option maxRecDepth 10000
/-! cells_on, relations_of: what their rounds say -/
namespace NT
theorem nofit_uni {m r : Int} {c cell : List Int} (u : Uni m c) (h : NoFit cell (units c.length) c r m) : False := by
  obtain ⟨h, h1, h2, h3⟩ := h
  refine h3 (Int.dvd_trans (u h h1 fun x hx => ?_) (Int.one_dvd _))
  obtain ⟨i, e⟩ := mem_at hx
  by_cases hi : i < c.length
  · have := h2 _ (ev_mem hi)
    rw [dtF_ev, e] at this; exact this
  · rw [← e, at_ge (by omega)]; exact Int.dvd_zero _
theorem nofit_never {m r n s : Int} {c b cell0 cell : List Int} {st : List (List Int)} (F : Fit cell0 (units c.length) c r m cell st) (h : NoFit cell st b s n) : NeverP m c r n b s := by
  obtain ⟨h, h1, h2, h3⟩ := h
  refine ⟨h, h1, fun y hy hd => h2 y (F.all y hy hd), vec cell, ?_, ?_⟩
  · rw [← dt_vec]; exact F.ok
  · rw [← dt_vec]; exact h3
theorem fit_two {m r n s : Int} {c b cell0 cell cell' : List Int} {st0 st st' : List (List Int)} (F : Fit cell0 st0 c r m cell st) (F' : Fit cell st b s n cell' st') : m ∣ dt c cell' - r ∧ n ∣ dt b cell' - s := by
  refine ⟨?_, F'.ok⟩
  obtain ⟨y, hy, e⟩ := F'.ce
  have h1 := (F.sub y hy).2
  have h2 := F.ok
  rw [dt_vec] at h2 ⊢
  rw [e, dtF_add]
  have e2 : dtF c (vec cell) + dtF c y - r = (dtF c (vec cell) - r) + dtF c y := by omega
  rw [e2]; exact Int.dvd_add h2 h1
/-- after i rounds -/
def RelSt (m n : Int) (c b : List Int) (i : Nat) (st : List (List Int)) : Prop := ∀ y, Spn st y ↔ Spn (units 2) y ∧ ∀ j, j < i → lcm m n ∣ dtF [lcm m n / m * at_ c j, lcm m n / n * at_ b j] y
theorem RelSt.start (m n : Int) (c b : List Int) : RelSt m n c b 0 (units 2) := fun y => ⟨fun h => ⟨h, fun j hj => by omega⟩, fun h => h.1⟩
theorem RelSt.step {m n : Int} {c b : List Int} {i : Nat} {st st' : List (List Int)} {cell cell' : List Int} (h : RelSt m n c b i st) (F : Fit cell st [lcm m n / m * at_ c i, lcm m n / n * at_ b i] 0 (lcm m n) cell' st') : RelSt m n c b (i + 1) st' := fun y => by
  constructor
  · intro hy
    obtain ⟨h1, h2⟩ := F.sub y hy
    obtain ⟨h3, h4⟩ := (h y).mp h1
    refine ⟨h3, fun j hj => ?_⟩
    by_cases e : j = i
    · subst e; exact h2
    · exact h4 j (by omega)
  · intro ⟨h1, h2⟩
    exact F.all y ((h y).mpr ⟨h1, fun j hj => h2 j (by omega)⟩) (h2 i (by omega))
theorem rel_fits {st : List (List Int)} {row : List Int} {P : Int} (h : NoFit [0, 0] st row 0 P) : False := by
  obtain ⟨h, h1, h2, h3⟩ := h
  refine h3 ?_
  have e : dt row [0, 0] = 0 := by
    rw [dt_vec]
    have : vec [0, 0] = fun _ => 0 := by
      funext i
      match i with
      | 0 => rfl
      | 1 => rfl
      | i + 2 => simp [vec, at_]
    rw [this, dtF_zero]
  rw [e]; exact Int.dvd_zero _
end NT
/-! M10 -/
set_option Elab.async false
set_option linter.all false
set_option maxHeartbeats 2100000
set_option maxRecDepth 10000
/-! exponents that grow -/
namespace NT
theorem put_self {e : Nat → Nat} {p j : Nat} : put e p j p = j := by unfold put; rw [if_pos rfl]
theorem put_ne {e : Nat → Nat} {p j q : Nat} (h : q ≠ p) : put e p j q = e q := by unfold put; rw [if_neg h]
theorem pr_up {e : Nat → Nat} {p : Nat} : ∀ {L : List Nat}, L.Nodup → p ∈ L → pr (put e p (e p + 1)) L = pr e L * (p : Int)
  | q :: L, nd, hm => by
    obtain ⟨n1, n2⟩ : _ ∧ _ := List.nodup_cons.mp nd
    rw [pr_cons, pr_cons]
    by_cases h : q = p
    · subst h
      have e1 : pr (put e q (e q + 1)) L = pr e L := pr_congr fun r hr => put_ne fun z => n1 (by rw [← z]; exact hr)
      rw [e1, put_self, Int.pow_succ]; grind
    · have hm2 : p ∈ L := by
        rcases List.mem_cons.mp hm with z | z
        · exact absurd z.symm h
        · exact z
      rw [pr_up n2 hm2, put_ne h, Int.mul_assoc]
theorem rad_cons (e : Nat → Nat) (p : Nat) (L : List Nat) : rad e (p :: L) = (if 0 < e p then (p : Int) else 1) * rad e L := by simp [rad]
theorem rad_congr {e f : Nat → Nat} : ∀ {L : List Nat}, (∀ p ∈ L, (0 < e p ↔ 0 < f p)) → rad e L = rad f L
  | [], _ => rfl
  | p :: L, h => by
    rw [rad_cons, rad_cons, rad_congr fun q hq => h q (List.mem_cons_of_mem _ hq)]
    simp only [h p List.mem_cons_self]
theorem rad_up1 {e : Nat → Nat} {p : Nat} (h : 0 < e p) {L : List Nat} : rad (put e p (e p + 1)) L = rad e L := rad_congr fun q _ => by
  by_cases hq : q = p
  · subst hq; rw [put_self]; omega
  · rw [put_ne hq]
theorem rad_up0 {e : Nat → Nat} {p : Nat} (h : e p = 0) : ∀ {L : List Nat}, L.Nodup → p ∈ L → rad (put e p (e p + 1)) L = rad e L * (p : Int)
  | q :: L, nd, hm => by
    obtain ⟨n1, n2⟩ : _ ∧ _ := List.nodup_cons.mp nd
    rw [rad_cons, rad_cons]
    by_cases hq : q = p
    · subst hq
      have e1 : rad (put e q (e q + 1)) L = rad e L := rad_congr fun r hr => by rw [put_ne fun z => n1 (by rw [← z]; exact hr)]
      rw [e1, put_self, h, if_pos (by omega), if_neg (by omega)]; grind
    · have hm2 : p ∈ L := by
        rcases List.mem_cons.mp hm with z | z
        · exact absurd z.symm hq
        · exact z
      rw [rad_up0 h n2 hm2, put_ne hq, Int.mul_assoc]
end NT
/-! M11 -/
set_option Elab.async false
set_option linter.all false
set_option maxHeartbeats 2100000
set_option maxRecDepth 10000
/-! one prime's part of a pair of stripes -/
namespace NT
structure Loc (p e f T : Nat) (c b : List Int) (r s κ : Int) (met : Bool) : Prop where
  le : T ≤ e ∧ T ≤ f
  dv : Dv ((p : Int) ^ T) b κ c
  mx : ∀ j, j ≤ e → j ≤ f → ∀ k, Dv ((p : Int) ^ j) b k c → j ≤ T
  uc : 0 < e → ∃ i, ¬ (p : Int) ∣ at_ c i
  ub : 0 < f → ∃ i, ¬ (p : Int) ∣ at_ b i
  mt : met = true ↔ (p : Int) ^ T ∣ s - κ * r
theorem dvd_pow1 {p T : Nat} (h : 0 < T) : (p : Int) ∣ (p : Int) ^ T := by
  have := pow_dvd (p := (p : Int)) (m := 1) (n := T) h
  rwa [Int.pow_succ, Int.pow_zero, Int.one_mul] at this
/-- a power that divides p^T times a unit -/
theorem pow_unit {p : Nat} (hp : p ∈ PL) {j T : Nat} {x : Int} (hx : ¬ (p : Int) ∣ x) (h : (p : Int) ^ j ∣ (p : Int) ^ T * x) : j ≤ T := by
  rcases prime_or hp x with hc | hc
  · have h1 : Cop ((p : Int) ^ j) x := (Cop.pow_right hc.symm j).symm
    rw [Int.mul_comm] at h
    have h2 := h1.dvd h
    rw [← Int.natCast_pow, ← Int.natCast_pow] at h2
    exact (Nat.pow_dvd_pow_iff_le_right (by have := PL_two hp; omega)).mp (Int.natCast_dvd_natCast.mp h2)
  · exact absurd hc hx
theorem loc_low {p e f : Nat} {c b : List Int} {r s : Int} (h : e = 0 ∨ f = 0) (uc : 0 < e → ∃ i, ¬ (p : Int) ∣ at_ c i) (ub : 0 < f → ∃ i, ¬ (p : Int) ∣ at_ b i) : Loc p e f 0 c b r s 0 true where
  le := ⟨Nat.zero_le _, Nat.zero_le _⟩
  dv := fun i => by rw [Int.pow_zero]; exact Int.one_dvd _
  mx := fun j h1 h2 _ _ => by clear uc ub; omega
  uc := uc
  ub := ub
  mt := by rw [Int.pow_zero]; exact ⟨fun _ => Int.one_dvd _, fun _ => rfl⟩
/-- the row b of the generator -/
structure Mix (p e f lo T lead : Nat) (c b0 b : List Int) (F : Int) : Prop where
  hlo : lo = min e f
  l0 : 0 < lo
  tl : T ≤ lo
  at_b : ∀ i, (p : Int) ^ f ∣ at_ b i - (F * at_ c i + (if i = lead then (p : Int) ^ lo else (p : Int) ^ T) * at_ b0 i)
  uc : ¬ (p : Int) ∣ at_ c lead
  un : T < lo → ∃ o, o ≠ lead ∧ ¬ (p : Int) ∣ at_ b0 o
  uF : 0 < T → ¬ (p : Int) ∣ F
theorem Mix.dv {p e f lo T lead : Nat} {c b0 b : List Int} {F : Int} (h : Mix p e f lo T lead c b0 b F) : Dv ((p : Int) ^ T) b F c := fun i => by
  have hf : lo ≤ f := by rw [h.hlo]; exact Nat.min_le_right _ _
  have h1 := Int.dvd_trans (pow_dvd (p := (p : Int)) (Nat.le_trans h.tl hf)) (h.at_b i)
  have h2 : (p : Int) ^ T ∣ (if i = lead then (p : Int) ^ lo else (p : Int) ^ T) * at_ b0 i := by
    refine Int.dvd_mul_of_dvd_left ?_
    split
    · exact pow_dvd h.tl
    · exact Int.dvd_refl _
  have e1 : at_ b i - F * at_ c i = (at_ b i - (F * at_ c i + (if i = lead then (p : Int) ^ lo else (p : Int) ^ T) * at_ b0 i)) + (if i = lead then (p : Int) ^ lo else (p : Int) ^ T) * at_ b0 i := by omega
  rw [e1]; exact Int.dvd_add h1 h2
theorem Mix.mx {p e f lo T lead : Nat} {c b0 b : List Int} {F : Int} (hp : p ∈ PL) (h : Mix p e f lo T lead c b0 b F) : ∀ j, j ≤ e → j ≤ f → ∀ k, Dv ((p : Int) ^ j) b k c → j ≤ T := fun j je jf k hk => by
  have hjl : j ≤ lo := by rw [h.hlo]; exact Nat.le_min.mpr ⟨je, jf⟩
  rcases Nat.lt_or_ge T lo with hT | hT
  · obtain ⟨o, ho, hu⟩ := h.un hT
    have d1 := Int.dvd_trans (pow_dvd (p := (p : Int)) jf) (h.at_b lead)
    rw [if_pos rfl] at d1
    have d2 := hk lead
    have d3 : (p : Int) ^ j ∣ (p : Int) ^ lo * at_ b0 lead := Int.dvd_mul_of_dvd_left (pow_dvd hjl)
    have d4 : (p : Int) ^ j ∣ at_ c lead * (F - k) := by
      have e1 : at_ c lead * (F - k) = (at_ b lead - k * at_ c lead) - (at_ b lead - (F * at_ c lead + (p : Int) ^ lo * at_ b0 lead)) - (p : Int) ^ lo * at_ b0 lead := by grind
      rw [e1]; exact Int.dvd_sub (Int.dvd_sub d2 d1) d3
    have d5 : (p : Int) ^ j ∣ F - k := by
      rcases prime_or hp (at_ c lead) with z | z
      · exact ((Cop.pow_right z.symm j).symm).dvd d4
      · exact absurd z h.uc
    have d6 := Int.dvd_trans (pow_dvd (p := (p : Int)) jf) (h.at_b o)
    rw [if_neg ho] at d6
    have d7 := hk o
    refine pow_unit hp hu ?_
    have e2 : (p : Int) ^ T * at_ b0 o = (at_ b o - k * at_ c o) - (at_ b o - (F * at_ c o + (p : Int) ^ T * at_ b0 o)) - (F - k) * at_ c o := by grind
    rw [e2]; exact Int.dvd_sub (Int.dvd_sub d7 d6) (Int.dvd_mul_of_dvd_left d5)
  · omega
theorem Mix.ub {p e f lo T lead : Nat} {c b0 b : List Int} {F : Int} (hp : p ∈ PL) (h : Mix p e f lo T lead c b0 b F) : ∃ i, ¬ (p : Int) ∣ at_ b i := by
  have hf : 0 < f := by
    have := h.l0
    have h2 : lo ≤ f := by rw [h.hlo]; exact Nat.min_le_right _ _
    omega
  have hd : ∀ i, (p : Int) ∣ at_ b i - (F * at_ c i + (if i = lead then (p : Int) ^ lo else (p : Int) ^ T) * at_ b0 i) := fun i => Int.dvd_trans (dvd_pow1 hf) (h.at_b i)
  by_cases hF : (p : Int) ∣ F
  · have hT : T = 0 := by
      rcases Nat.eq_zero_or_pos T with z | z
      · exact z
      · exact absurd hF (h.uF z)
    obtain ⟨o, ho, hu⟩ := h.un (by have := h.l0; omega)
    refine ⟨o, fun z => hu ?_⟩
    have h1 := hd o
    rw [if_neg ho, hT, Int.pow_zero, Int.one_mul] at h1
    have e1 : at_ b0 o = at_ b o - (at_ b o - (F * at_ c o + at_ b0 o)) - F * at_ c o := by omega
    rw [e1]; exact Int.dvd_sub (Int.dvd_sub z h1) (Int.dvd_mul_of_dvd_left hF)
  · refine ⟨lead, fun z => ?_⟩
    have h1 := hd lead
    rw [if_pos rfl] at h1
    have h2 : (p : Int) ∣ (p : Int) ^ lo * at_ b0 lead := Int.dvd_mul_of_dvd_left (dvd_pow1 h.l0)
    have e1 : F * at_ c lead = at_ b lead - (at_ b lead - (F * at_ c lead + (p : Int) ^ lo * at_ b0 lead)) - (p : Int) ^ lo * at_ b0 lead := by omega
    have h3 : (p : Int) ∣ F * at_ c lead := by rw [e1]; exact Int.dvd_sub (Int.dvd_sub z h1) h2
    rcases prime_mul hp h3 with q | q
    · exact hF q
    · exact h.uc q
theorem Mix.met {p e f lo T lead : Nat} {c b0 b : List Int} {F r s k : Int} (hp : p ∈ PL) (h : Mix p e f lo T lead c b0 b F) (hs : (p : Int) ^ f ∣ s - (F * r + (p : Int) ^ T * k)) : Loc p e f T c b r s F true where
  le := ⟨Nat.le_trans h.tl (by rw [h.hlo]; exact Nat.min_le_left _ _), Nat.le_trans h.tl (by rw [h.hlo]; exact Nat.min_le_right _ _)⟩
  dv := h.dv
  mx := h.mx hp
  uc := fun _ => ⟨lead, h.uc⟩
  ub := fun _ => h.ub hp
  mt := by
    refine ⟨fun _ => ?_, fun _ => rfl⟩
    have hf : T ≤ f := Nat.le_trans h.tl (by rw [h.hlo]; exact Nat.min_le_right _ _)
    have h1 := Int.dvd_trans (pow_dvd (p := (p : Int)) hf) hs
    have e1 : s - F * r = (s - (F * r + (p : Int) ^ T * k)) + (p : Int) ^ T * k := by omega
    rw [e1]; exact Int.dvd_add h1 (Int.dvd_mul_right ..)
theorem Mix.not {p e f lo T lead l : Nat} {c b0 b : List Int} {F r s u : Int} (hp : p ∈ PL) (h : Mix p e f lo T lead c b0 b F) (hl : l < T) (hu : ¬ (p : Int) ∣ u) (hs : (p : Int) ^ f ∣ s - (F * r + (p : Int) ^ l * u)) : Loc p e f T c b r s F false where
  le := ⟨Nat.le_trans h.tl (by rw [h.hlo]; exact Nat.min_le_left _ _), Nat.le_trans h.tl (by rw [h.hlo]; exact Nat.min_le_right _ _)⟩
  dv := h.dv
  mx := h.mx hp
  uc := fun _ => ⟨lead, h.uc⟩
  ub := fun _ => h.ub hp
  mt := by
    refine ⟨fun z => absurd z (by decide), fun z => ?_⟩
    exfalso
    have hf : T ≤ f := Nat.le_trans h.tl (by rw [h.hlo]; exact Nat.min_le_right _ _)
    have h1 := Int.dvd_trans (pow_dvd (p := (p : Int)) hf) hs
    have h2 : (p : Int) ^ T ∣ (p : Int) ^ l * u := by
      have e1 : (p : Int) ^ l * u = (s - F * r) - (s - (F * r + (p : Int) ^ l * u)) := by omega
      rw [e1]; exact Int.dvd_sub z h1
    have := pow_unit hp hu h2
    omega
end NT
/-! M12 -/
set_option Elab.async false
set_option linter.all false
set_option maxHeartbeats 2100000
set_option maxRecDepth 10000
/-! the primes put together -/
namespace NT
/-- Loc sees the rows by their residues only -/
theorem Loc.congr {p e f T : Nat} {c b c' b' : List Int} {r s r' s' κ : Int} {met : Bool} (h : Loc p e f T c b r s κ met) (hc : ∀ i, (p : Int) ^ e ∣ at_ c' i - at_ c i) (hb : ∀ i, (p : Int) ^ f ∣ at_ b' i - at_ b i)
    (hr : (p : Int) ^ e ∣ r' - r) (hs : (p : Int) ^ f ∣ s' - s) : Loc p e f T c' b' r' s' κ met where
  le := h.le
  dv := fun i => by
    have h1 := Int.dvd_trans (pow_dvd (p := (p : Int)) h.le.1) (hc i)
    have h2 := Int.dvd_trans (pow_dvd (p := (p : Int)) h.le.2) (hb i)
    have e1 : at_ b' i - κ * at_ c' i = (at_ b i - κ * at_ c i) + (at_ b' i - at_ b i) - κ * (at_ c' i - at_ c i) := by grind
    rw [e1]; exact Int.dvd_sub (Int.dvd_add (h.dv i) h2) (Int.dvd_mul_of_dvd_right h1)
  mx := fun j je jf k hk => h.mx j je jf k fun i => by
    have h1 := Int.dvd_trans (pow_dvd (p := (p : Int)) je) (hc i)
    have h2 := Int.dvd_trans (pow_dvd (p := (p : Int)) jf) (hb i)
    have e1 : at_ b i - k * at_ c i = (at_ b' i - k * at_ c' i) - (at_ b' i - at_ b i) + k * (at_ c' i - at_ c i) := by grind
    rw [e1]; exact Int.dvd_add (Int.dvd_sub (hk i) h2) (Int.dvd_mul_of_dvd_right h1)
  uc := fun h0 => by
    obtain ⟨i, hi⟩ := h.uc h0
    refine ⟨i, fun z => hi ?_⟩
    have h1 := Int.dvd_trans (dvd_pow1 h0) (hc i)
    have e1 : at_ c i = at_ c' i - (at_ c' i - at_ c i) := by omega
    rw [e1]; exact Int.dvd_sub z h1
  ub := fun h0 => by
    obtain ⟨i, hi⟩ := h.ub h0
    refine ⟨i, fun z => hi ?_⟩
    have h1 := Int.dvd_trans (dvd_pow1 h0) (hb i)
    have e1 : at_ b i = at_ b' i - (at_ b' i - at_ b i) := by omega
    rw [e1]; exact Int.dvd_sub z h1
  mt := by
    have h1 := Int.dvd_trans (pow_dvd (p := (p : Int)) h.le.1) hr
    have h2 := Int.dvd_trans (pow_dvd (p := (p : Int)) h.le.2) hs
    rw [h.mt]
    constructor
    · intro z
      have e1 : s' - κ * r' = (s - κ * r) + (s' - s) - κ * (r' - r) := by grind
      rw [e1]; exact Int.dvd_sub (Int.dvd_add z h2) (Int.dvd_mul_of_dvd_right h1)
    · intro z
      have e1 : s - κ * r = (s' - κ * r') - (s' - s) + κ * (r' - r) := by grind
      rw [e1]; exact Int.dvd_add (Int.dvd_sub z h2) (Int.dvd_mul_of_dvd_right h1)
/-- one number for all the primes -/
theorem crt (T : Nat → Nat) (κ : Nat → Int) : ∀ {L : List Nat}, (∀ p ∈ L, p ∈ PL) → L.Nodup → ∃ k : Int, ∀ p ∈ L, (p : Int) ^ T p ∣ k - κ p
  | [], _, _ => ⟨0, fun p hp => by cases hp⟩
  | p :: L, h, nd => by
    obtain ⟨n1, n2⟩ : _ ∧ _ := List.nodup_cons.mp nd
    obtain ⟨k, hk⟩ := crt T κ (fun q hq => h q (List.mem_cons_of_mem _ hq)) n2
    have hp := h p List.mem_cons_self
    have hc : Cop (pr T L) ((p : Int) ^ T p) := Cop.pow_right (pr_cop T hp (fun q hq => h q (List.mem_cons_of_mem _ hq)) n1).symm _
    obtain ⟨x, y, e⟩ := hc
    refine ⟨k + pr T L * (x * (κ p - k)), fun q hq => ?_⟩
    rcases List.mem_cons.mp hq with z | z
    · subst z
      refine ⟨-(y * (κ q - k)), ?_⟩
      have e1 : k + pr T L * (x * (κ q - k)) - κ q = (pr T L * x - 1) * (κ q - k) := by grind
      have e2 : pr T L * x - 1 = -((q : Int) ^ T q * y) := by omega
      rw [e1, e2]; grind
    · have h1 := hk q z
      have h2 : (q : Int) ^ T q ∣ pr T L * (x * (κ p - k)) := Int.dvd_mul_of_dvd_left (pow_dvd_pr T z)
      have e1 : k + pr T L * (x * (κ p - k)) - κ q = (k - κ q) + pr T L * (x * (κ p - k)) := by omega
      rw [e1]; exact Int.dvd_add h1 h2
theorem glue {e f T : Nat → Nat} {c b : List Int} {r s : Int} {κ : Nat → Int} {mt : Nat → Bool} (h : ∀ p ∈ PL, Loc p (e p) (f p) (T p) c b r s (κ p) (mt p)) :
    ∃ k, Rel e f c b T k ∧ ((∀ p ∈ PL, mt p = true) ↔ pr T PL ∣ s - k * r) := by
  obtain ⟨k, hk⟩ := crt T κ (L := PL) (fun p hp => hp) PL_nodup
  refine ⟨k, ⟨fun p hp => (h p hp).le, fun i => pr_dvd_of T (fun p hp => hp) PL_nodup fun p hp => ?_, fun p hp => (h p hp).mx⟩, fun H => pr_dvd_of T (fun p hp => hp) PL_nodup fun p hp => ?_, fun H p hp => ?_⟩
  · have e1 : at_ b i - k * at_ c i = (at_ b i - κ p * at_ c i) - (k - κ p) * at_ c i := by grind
    rw [e1]; exact Int.dvd_sub ((h p hp).dv i) (Int.dvd_mul_of_dvd_left (hk p hp))
  · have h1 := (h p hp).mt.mp (H p hp)
    have e1 : s - k * r = (s - κ p * r) - (k - κ p) * r := by grind
    rw [e1]; exact Int.dvd_sub h1 (Int.dvd_mul_of_dvd_left (hk p hp))
  · refine (h p hp).mt.mpr ?_
    have h1 := Int.dvd_trans (pow_dvd_pr T hp) H
    have e1 : s - κ p * r = (s - k * r) + (k - κ p) * r := by grind
    rw [e1]; exact Int.dvd_add h1 (Int.dvd_mul_of_dvd_left (hk p hp))
theorem uni_of {e : Nat → Nat} {c : List Int} (h : ∀ p ∈ PL, 0 < e p → ∃ i, ¬ (p : Int) ∣ at_ c i) : Uni (pr e PL) c := fun d h1 h2 => by
  have h3 := dvd_pr (t := fun _ => 0) (fun p hp => hp) PL_nodup h1 fun p hp j hj => by
    rcases Nat.eq_zero_or_pos j with z | z
    · omega
    · exfalso
      have h4 : (p : Int) ^ 1 ∣ pr e PL := Int.dvd_trans (Int.dvd_trans (pow_dvd z) hj) h1
      obtain ⟨i, hi⟩ := h p hp (pow_part e hp h4)
      refine hi (Int.dvd_trans (Int.dvd_trans (dvd_pow1 z) hj) ?_)
      rcases at_mem (c := c) i with y | y
      · exact h2 _ y
      · rw [y]; exact Int.dvd_zero _
  have e1 : pr (fun _ => 0) PL = 1 := by decide
  rwa [e1] at h3
end NT
/-! M13 -/
set_option Elab.async false
set_option linter.all false
set_option maxHeartbeats 2100000
set_option maxRecDepth 10000
/-! the round over the primes in the generator -/
namespace NT
def mask (e : Nat → Nat) (xs : List Nat) : Nat → Nat := fun p => if p ∈ xs then 0 else e p
theorem mask_step {e : Nat → Nat} {p : Nat} {xs : List Nat} (nd : (p :: xs).Nodup) (hp : p ∈ PL) : pr (mask e xs) PL = pr (mask e (p :: xs)) PL * (p : Int) ^ e p := by
  obtain ⟨n1, n2⟩ : _ ∧ _ := List.nodup_cons.mp nd
  rw [← pr_put (t := mask e (p :: xs)) (p := p) (j := e p) (by unfold mask; rw [if_pos List.mem_cons_self]) PL_nodup hp]
  refine pr_congr fun q _ => ?_
  unfold put mask
  by_cases h : q = p
  · subst h; rw [if_pos rfl, if_neg n1]
  · rw [if_neg h]
    have : (q ∈ p :: xs) ↔ q ∈ xs := by simp [h]
    simp only [this]
theorem mask_nil (e : Nat → Nat) : pr (mask e []) PL = pr e PL := pr_congr fun p _ => by unfold mask; rw [if_neg (by simp)]
theorem mask_all (e : Nat → Nat) : pr (mask e PL) PL = 1 := by
  have h : pr (mask e PL) PL = pr (fun _ => 0) PL := pr_congr fun p hp => by unfold mask; rw [if_pos hp]
  rw [h]; decide
theorem mask_dvd (e : Nat → Nat) {xs : List Nat} {p : Nat} (hp : p ∈ PL) (hn : p ∉ xs) : (p : Int) ^ e p ∣ pr (mask e xs) PL := by
  have h := pow_dvd_pr (mask e xs) hp
  have e1 : mask e xs p = e p := by unfold mask; rw [if_neg hn]
  rwa [e1] at h
theorem mask_cop (e : Nat → Nat) {xs : List Nat} {p : Nat} (hp : p ∈ PL) (hn : p ∈ xs) (j : Nat) : Cop (pr (mask e xs) PL) ((p : Int) ^ j) := Cop.pow_right (pr_cop0 hp (by unfold mask; rw [if_pos hn]) fun q hq => hq).symm _
theorem mask_le (e : Nat → Nat) (xs : List Nat) : pr (mask e xs) PL ∣ pr e PL := pr_dvd fun p _ => by unfold mask; split <;> omega
theorem last_split {d : Nat} {l : List Int} (h : l.length = d + 1) : ∃ c r, l = c ++ [r] ∧ c.length = d := by
  rcases List.eq_nil_or_concat l with z | ⟨c, r, z⟩
  · rw [z] at h; cases h
  · refine ⟨c, r, by rw [z]; simp, ?_⟩
    rw [z] at h; simpa using h
theorem at_snoc {c : List Int} {r : Int} {i : Nat} (h : i < c.length) : at_ (c ++ [r]) i = at_ c i := by
  simp [at_, List.getD, List.getElem?_append_left h]
theorem at_snoc_last {c : List Int} {r : Int} : at_ (c ++ [r]) c.length = r := by simp [at_, List.getD]
theorem snoc_dvd {z r r' : Int} {c c' : List Int} (hl : c'.length = c.length) (h : ∀ i, z ∣ at_ (c' ++ [r']) i - at_ (c ++ [r]) i) : (∀ i, z ∣ at_ c' i - at_ c i) ∧ z ∣ r' - r := by
  refine ⟨fun i => ?_, ?_⟩
  · by_cases hi : i < c.length
    · have := h i
      rw [at_snoc (by omega), at_snoc hi] at this; exact this
    · rw [at_ge (by omega), at_ge (by omega)]; exact ⟨0, by omega⟩
  · have := h c.length
    rw [at_snoc_last, ← hl, at_snoc_last] at this; exact this
structure GS (e f : Nat → Nat) (d : Nat) (xs : List Nat) (c b : List Int) (r s : Int) (T : Nat → Nat) (κ : Nat → Int) (mt : Nat → Bool) (meets : Bool) : Prop where
  nd : xs.Nodup
  sub : ∀ p ∈ xs, p ∈ PL
  lc : c.length = d
  lb : b.length = d
  bc : ∀ x ∈ c ++ [r], 0 ≤ x ∧ x < pr (mask e xs) PL
  bb : ∀ x ∈ b ++ [s], 0 ≤ x ∧ x < pr (mask f xs) PL
  loc : ∀ p ∈ PL, p ∉ xs → Loc p (e p) (f p) (T p) c b r s (κ p) (mt p)
  met : meets = true ↔ ∀ p ∈ PL, p ∉ xs → mt p = true
/-- a prime that neither period has -/
theorem GS.skip {e f : Nat → Nat} {d p : Nat} {xs : List Nat} {c b : List Int} {r s : Int} {T : Nat → Nat} {κ : Nat → Int} {mt : Nat → Bool} {meets : Bool} (h : GS e f d (p :: xs) c b r s T κ mt meets) (he : e p = 0) (hf : f p = 0) :
    GS e f d xs c b r s (put T p 0) (fun q => if q = p then 0 else κ q) (fun q => if q = p then true else mt q) meets ∧ pr (mask (put T p 0) xs) PL = pr (mask T (p :: xs)) PL := by
  obtain ⟨n1, n2⟩ := List.nodup_cons.mp h.nd
  have hp := h.sub p List.mem_cons_self
  have e1 : pr (mask e xs) PL = pr (mask e (p :: xs)) PL := by rw [mask_step h.nd hp, he, Int.pow_zero, Int.mul_one]
  have f1 : pr (mask f xs) PL = pr (mask f (p :: xs)) PL := by rw [mask_step h.nd hp, hf, Int.pow_zero, Int.mul_one]
  refine ⟨⟨n2, fun q hq => h.sub q (List.mem_cons_of_mem _ hq), h.lc, h.lb, by rw [e1]; exact h.bc, by rw [f1]; exact h.bb, fun q hq hn => ?_, ?_⟩, pr_congr fun q _ => ?_⟩
  · by_cases hqp : q = p
    · subst hqp
      rw [he, hf, put_self, if_pos rfl, if_pos rfl]
      exact loc_low (.inl rfl) (fun z => absurd z (by decide)) (fun z => absurd z (by decide))
    · rw [put_ne hqp, if_neg hqp, if_neg hqp]
      exact h.loc q hq (by simp [hqp, hn])
  · rw [h.met]
    constructor
    · intro H q hq hn
      by_cases hqp : q = p
      · rw [if_pos hqp]
      · rw [if_neg hqp]; exact H q hq (by simp [hqp, hn])
    · intro H q hq hn
      have h1 : q ≠ p := fun z => hn (by simp [z])
      have := H q hq (fun z => hn (List.mem_cons_of_mem _ z))
      rwa [if_neg h1] at this
  · unfold mask put
    by_cases hqp : q = p
    · subst hqp; rw [if_neg n1, if_pos rfl, if_pos List.mem_cons_self]
    · have : (q ∈ p :: xs) ↔ q ∈ xs := by simp [hqp]
      simp only [this, if_neg hqp]
theorem GS.step {e f : Nat → Nat} {d p : Nat} {xs : List Nat} {c b c' b' cn bn : List Int} {r s r' s' rn sn κ' : Int} {T : Nat → Nat} {κ : Nat → Int} {mt : Nat → Bool} {meets m' : Bool} {T' : Nat} (h : GS e f d (p :: xs) c b r s T κ mt meets)
    (L : Loc p (e p) (f p) T' cn bn rn sn κ' m') (lcn : cn.length = d) (lbn : bn.length = d) (lc' : c'.length = d) (lb' : b'.length = d)
    (c1 : ∀ i, pr (mask e (p :: xs)) PL ∣ at_ (c' ++ [r']) i - at_ (c ++ [r]) i) (c2 : ∀ i, (p : Int) ^ e p ∣ at_ (c' ++ [r']) i - at_ (cn ++ [rn]) i) (c3 : ∀ x ∈ c' ++ [r'], 0 ≤ x ∧ x < pr (mask e (p :: xs)) PL * (p : Int) ^ e p)
    (b1 : ∀ i, pr (mask f (p :: xs)) PL ∣ at_ (b' ++ [s']) i - at_ (b ++ [s]) i) (b2 : ∀ i, (p : Int) ^ f p ∣ at_ (b' ++ [s']) i - at_ (bn ++ [sn]) i) (b3 : ∀ x ∈ b' ++ [s'], 0 ≤ x ∧ x < pr (mask f (p :: xs)) PL * (p : Int) ^ f p) :
    GS e f d xs c' b' r' s' (put T p T') (fun q => if q = p then κ' else κ q) (fun q => if q = p then m' else mt q) (meets && m') ∧ pr (mask (put T p T') xs) PL = pr (mask T (p :: xs)) PL * (p : Int) ^ T' := by
  obtain ⟨n1, n2⟩ := List.nodup_cons.mp h.nd
  have hp := h.sub p List.mem_cons_self
  obtain ⟨c4, r4⟩ := snoc_dvd (by rw [lc', h.lc]) c1
  obtain ⟨c5, r5⟩ := snoc_dvd (by rw [lc', lcn]) c2
  obtain ⟨b4, s4⟩ := snoc_dvd (by rw [lb', h.lb]) b1
  obtain ⟨b5, s5⟩ := snoc_dvd (by rw [lb', lbn]) b2
  refine ⟨⟨n2, fun q hq => h.sub q (List.mem_cons_of_mem _ hq), lc', lb', by rw [mask_step h.nd hp]; exact c3, by rw [mask_step h.nd hp]; exact b3, fun q hq hn => ?_, ?_⟩, ?_⟩
  · by_cases hqp : q = p
    · subst hqp
      rw [put_self, if_pos rfl, if_pos rfl]
      exact L.congr c5 b5 r5 s5
    · rw [put_ne hqp, if_neg hqp, if_neg hqp]
      have hn2 : q ∉ p :: xs := by simp [hqp, hn]
      have d1 := mask_dvd e hq hn2
      have d2 := mask_dvd f hq hn2
      exact (h.loc q hq hn2).congr (fun i => Int.dvd_trans d1 (c4 i)) (fun i => Int.dvd_trans d2 (b4 i)) (Int.dvd_trans d1 r4) (Int.dvd_trans d2 s4)
  · rw [Bool.and_eq_true, h.met]
    constructor
    · intro ⟨H, hm⟩ q hq hn
      by_cases hqp : q = p
      · rw [if_pos hqp]; exact hm
      · rw [if_neg hqp]; exact H q hq (by simp [hqp, hn])
    · intro H
      refine ⟨fun q hq hn => ?_, ?_⟩
      · have h1 : q ≠ p := fun z => hn (by simp [z])
        have := H q hq (fun z => hn (List.mem_cons_of_mem _ z))
        rwa [if_neg h1] at this
      · have := H p hp n1
        rwa [if_pos rfl] at this
  · rw [mask_step h.nd hp, put_self]
    congr 1
    refine pr_congr fun q _ => ?_
    unfold mask
    by_cases hq : q ∈ p :: xs
    · rw [if_pos hq, if_pos hq]
    · rw [if_neg hq, if_neg hq, put_ne fun z => hq (by simp [z])]
theorem GS.start (e f : Nat → Nat) (d : Nat) : GS e f d PL (List.replicate d 0) (List.replicate d 0) 0 0 (fun _ => 0) (fun _ => 0) (fun _ => true) true where
  nd := PL_nodup
  sub := fun p hp => hp
  lc := by simp
  lb := by simp
  bc := fun x hx => by
    rw [mask_all]
    rcases List.mem_append.mp hx with z | z
    · rw [(List.mem_replicate.mp z).2]; decide
    · rcases List.mem_singleton.mp z with rfl; decide
  bb := fun x hx => by
    rw [mask_all]
    rcases List.mem_append.mp hx with z | z
    · rw [(List.mem_replicate.mp z).2]; decide
    · rcases List.mem_singleton.mp z with rfl; decide
  loc := fun p hp hn => absurd hp hn
  met := ⟨fun _ p hp hn => rfl, fun _ => rfl⟩
end NT
/-! M14 -/
set_option Elab.async false
set_option linter.all false
set_option maxHeartbeats 2100000
set_option maxRecDepth 10000
namespace NT
theorem rad_mono {e f : Nat → Nat} : ∀ {L : List Nat}, (∀ p ∈ L, p ∈ PL) → (∀ p ∈ L, f p ≤ e p) → rad f L ≤ rad e L
  | [], _, _ => Int.le_refl _
  | p :: L, hL, h => by
    rw [rad_cons, rad_cons]
    have ih := rad_mono (fun q hq => hL q (List.mem_cons_of_mem _ hq)) fun q hq => h q (List.mem_cons_of_mem _ hq)
    have r0 := rad_pos f (L := L) fun q hq => hL q (List.mem_cons_of_mem _ hq)
    have r1 := rad_pos e (L := L) fun q hq => hL q (List.mem_cons_of_mem _ hq)
    have hp := PL_two (hL p List.mem_cons_self)
    have hpe := h p List.mem_cons_self
    have a1 : (if 0 < f p then (p : Int) else 1) ≤ (if 0 < e p then (p : Int) else 1) := by
      split
      · rw [if_pos (by omega)]; exact Int.le_refl _
      · split <;> omega
    have a0 : 0 ≤ (if 0 < e p then (p : Int) else 1) := by split <;> omega
    exact Int.le_trans (Int.mul_le_mul_of_nonneg_right a1 (by omega)) (Int.mul_le_mul_of_nonneg_left ih a0)
theorem put_put {e : Nat → Nat} {p i j : Nat} : put (put e p i) p j = put e p j := by
  funext q
  unfold put
  split <;> rfl
theorem put_id {e : Nat → Nat} {p : Nat} : put e p (e p) = e := by
  funext q
  unfold put
  split
  · rename_i h; rw [h]
  · rfl
/-- another power in one place -/
theorem pr_change {f : Nat → Nat} {p j : Nat} (hp : p ∈ PL) : pr f PL / (p : Int) ^ f p * (p : Int) ^ j = pr (put f p j) PL ∧ (p : Int) ^ f p ∣ pr f PL ∧ pr f PL / (p : Int) ^ f p = pr (put f p 0) PL := by
  have h0 : put f p 0 p = 0 := put_self
  have h1 := pr_put (t := put f p 0) (p := p) (j := j) h0 PL_nodup hp
  have h2 := pr_put (t := put f p 0) (p := p) (j := f p) h0 PL_nodup hp
  rw [put_put] at h1 h2
  rw [put_id] at h2
  have hpos := pow_pos (p := p) (by have := PL_two hp; omega) (f p)
  have h3 : pr f PL / (p : Int) ^ f p = pr (put f p 0) PL := by rw [h2]; exact Int.mul_ediv_cancel _ (by omega)
  exact ⟨by rw [h3, h1], ⟨pr (put f p 0) PL, by rw [h2, Int.mul_comm]⟩, h3⟩
end NT
/-! DL1 -/
set_option Elab.async false
set_option linter.all false
set_option maxRecDepth 100000
set_option maxHeartbeats 2100000
namespace DL
open PySem PySem.Spec L2 PyProof.Rows

/-! ## data, and how a heap bears it -/
inductive D where
  | non | bl (b : Bool) | int (i : Int) | str (x : Str) | tup (ds : List D) | lst (ds : List D) | dct (kvs : List (Int × Int)) | dk | scr (ns : List Int)

abbrev JJ := Option (Addr × Addr)
def dks : JJ → Addr → Prop
  | none, _ => False
  | some p, b => b = p.1 ∨ b = p.2

mutual
def Rp (K : PySem.W.Frag) (J : JJ) (H : Hp) : D → V → Prop
  | .non, v => v = .non
  | .bl b, v => v = .bl b
  | .int i, v => v = .int i
  | .str x, v => v = .str x
  | .tup ds, v => ∃ a xs, v = .ref a ∧ H a = some (.tup xs) ∧ Rps K J H ds xs
  | .lst ds, v => ∃ a xs, v = .ref a ∧ H a = some (.lst xs) ∧ Rps K J H ds xs
  | .dct kvs, v => ∃ a, v = .ref a ∧ H a = some (.dK (kvs.map fun p => (Sum.inl p.1, V.int p.2)))
  | .dk, v => ∃ a l, J = some (a, l) ∧ v = .ref a
  | .scr ns, v => ∃ a, v = .ref a ∧ SqL K H a (ns.map V.int)
def Rps (K : PySem.W.Frag) (J : JJ) (H : Hp) : List D → List V → Prop
  | [], vs => vs = []
  | d :: ds, vs => ∃ v r, vs = v :: r ∧ Rp K J H d v ∧ Rps K J H ds r
end

mutual
theorem Rp.mono {K : PySem.W.Frag} {J : JJ} {H H' : Hp} (e : Same H H') : ∀ {d : D} {v : V}, Rp K J H d v → Rp K J H' d v
  | .non, _, h => h
  | .bl _, _, h => h
  | .int _, _, h => h
  | .str _, _, h => h
  | .tup ds, _, ⟨a, xs, e1, h1, h2⟩ => ⟨a, xs, e1, e _ _ h1, Rps.mono e h2⟩
  | .lst ds, _, ⟨a, xs, e1, h1, h2⟩ => ⟨a, xs, e1, e _ _ h1, Rps.mono e h2⟩
  | .dct kvs, _, ⟨a, e1, h⟩ => ⟨a, e1, e _ _ h⟩
  | .dk, _, h => h
  | .scr ns, _, ⟨a, e1, h⟩ => ⟨a, e1, e.seq h⟩
theorem Rps.mono {K : PySem.W.Frag} {J : JJ} {H H' : Hp} (e : Same H H') : ∀ {ds : List D} {vs : List V}, Rps K J H ds vs → Rps K J H' ds vs
  | [], _, h => h
  | d :: ds, _, ⟨v, r, e1, h1, h2⟩ => ⟨v, r, e1, Rp.mono e h1, Rps.mono e h2⟩
end
section
variable {K : PySem.W.Frag} {J : JJ} {H : Hp}
theorem Rps.len : ∀ {ds : List D} {vs : List V}, Rps K J H ds vs → vs.length = ds.length
  | [], _, h => by cases h; rfl
  | _ :: ds, _, ⟨v, r, e, _, h⟩ => by subst e; simp [Rps.len h]
theorem Rps.get : ∀ {ds : List D} {vs : List V} {i : Nat} {d : D}, Rps K J H ds vs → ds[i]? = some d → ∃ v, vs[i]? = some v ∧ Rp K J H d v
  | [], _, _, _, _, e => by simp at e
  | _ :: ds, _, 0, _, ⟨v, r, e, h1, _⟩, e2 => by subst e; simp at e2; subst e2; exact ⟨v, rfl, h1⟩
  | _ :: ds, _, i + 1, _, ⟨v, r, e, _, h⟩, e2 => by
    subst e
    obtain ⟨u, h1, h2⟩ := Rps.get (i := i) h (by simpa using e2)
    exact ⟨u, (by simpa using h1), h2⟩
theorem Rps.got : ∀ {ds : List D} {vs : List V} {i : Nat} {v : V}, Rps K J H ds vs → vs[i]? = some v → ∃ d, ds[i]? = some d ∧ Rp K J H d v
  | [], _, _, _, h, e => by cases h; simp at e
  | d :: ds, _, 0, _, ⟨v, r, e, h1, _⟩, e2 => by subst e; simp at e2; subst e2; exact ⟨d, rfl, h1⟩
  | _ :: ds, _, i + 1, _, ⟨v, r, e, _, h⟩, e2 => by
    subst e
    obtain ⟨u, h1, h2⟩ := Rps.got (i := i) h (by simpa using e2)
    exact ⟨u, (by simpa using h1), h2⟩
theorem Rps.app : ∀ {ds es : List D} {vs us : List V}, Rps K J H ds vs → Rps K J H es us → Rps K J H (ds ++ es) (vs ++ us)
  | [], _, _, _, h, k => by cases h; exact k
  | _ :: _, _, _, _, ⟨v, r, e, h1, h⟩, k => by subst e; exact ⟨v, _, rfl, h1, Rps.app h k⟩
theorem Rps.one {d : D} {v : V} (h : Rp K J H d v) : Rps K J H [d] [v] := ⟨v, [], rfl, h, rfl⟩
theorem Rps.set : ∀ {ds : List D} {vs : List V} (i : Nat) {d : D} {v : V}, Rps K J H ds vs → Rp K J H d v → Rps K J H (ds.set i d) (vs.set i v)
  | [], _, _, _, _, h, _ => by cases h; simp; rfl
  | _ :: _, _, 0, _, _, ⟨v, r, e, h1, h⟩, k => by subst e; exact ⟨_, r, rfl, k, h⟩
  | _ :: _, _, i + 1, _, _, ⟨v, r, e, h1, h⟩, k => by subst e; exact ⟨v, _, rfl, h1, Rps.set i h k⟩
theorem Rps.drop : ∀ {ds : List D} {vs : List V} (n : Nat), Rps K J H ds vs → Rps K J H (ds.drop n) (vs.drop n)
  | _, _, 0, h => h
  | [], _, n + 1, h => by cases h; simp; rfl
  | _ :: _, _, n + 1, ⟨v, r, e, h1, h⟩ => by subst e; exact Rps.drop n h
theorem Rps.take : ∀ {ds : List D} {vs : List V} (n : Nat), Rps K J H ds vs → Rps K J H (ds.take n) (vs.take n)
  | _, _, 0, h => by simp; rfl
  | [], _, n + 1, h => by cases h; simp; rfl
  | _ :: _, _, n + 1, ⟨v, r, e, h1, h⟩ => by subst e; exact ⟨v, _, rfl, h1, Rps.take n h⟩
theorem Rps.dropLast {ds : List D} {vs : List V} (h : Rps K J H ds vs) : Rps K J H ds.dropLast vs.dropLast := by
  rw [List.dropLast_eq_take, List.dropLast_eq_take, h.len]; exact h.take _
theorem Rps.rev : ∀ {ds : List D} {vs : List V}, Rps K J H ds vs → Rps K J H ds.reverse vs.reverse
  | [], _, h => by cases h; rfl
  | _ :: _, _, ⟨v, r, e, h1, h⟩ => by
    subst e
    rw [List.reverse_cons, @List.reverse_cons]
    exact (Rps.rev h).app (Rps.one h1)
theorem Rps.rep {ds : List D} {vs : List V} (h : Rps K J H ds vs) : ∀ n : Nat, Rps K J H (List.replicate n ds).flatten (List.replicate n vs).flatten
  | 0 => rfl
  | n + 1 => by rw [List.replicate_succ, List.flatten_cons, List.replicate_succ, List.flatten_cons]; exact h.app (Rps.rep h n)
theorem Rps.ints : ∀ {ns : List Int} {vs : List V}, Rps K J H (ns.map D.int) vs → vs = ns.map V.int
  | [], _, h => h
  | n :: ns, _, ⟨v, r, e, h1, h⟩ => by
    have e1 : v = .int n := h1
    subst e; subst e1; rw [Rps.ints h]; rfl
theorem Rps.ofInts : ∀ (ns : List Int), Rps K J H (ns.map D.int) (ns.map V.int)
  | [] => rfl
  | n :: ns => ⟨.int n, _, rfl, rfl, Rps.ofInts ns⟩
theorem Rps.bls : ∀ {bs : List Bool} {vs : List V}, Rps K J H (bs.map D.bl) vs → vs = bs.map V.bl
  | [], _, h => h
  | n :: ns, _, ⟨v, r, e, h1, h⟩ => by
    have e1 : v = .bl n := h1
    subst e; subst e1; rw [Rps.bls h]; rfl
end

/-! ## hidden addresses -/
open Classical in
noncomputable
def hid (M : Addr → Prop) (H : Hp) : Hp := fun b => if M b then none else H b
section
variable {M M' : Addr → Prop} {H H' : Hp} {b : Addr} {o : HO}
theorem hid_some : hid M H b = some o ↔ ¬ M b ∧ H b = some o := by
  unfold hid
  by_cases h : M b
  · simp [h]
  · simp [h]
theorem hid_same : Same (hid M H) H := fun _ _ h => (hid_some.mp h).2
theorem hid_mono (h : ∀ b, M' b → M b) (e : Same H H') : Same (hid M H) (hid M' H') := fun b o q => by
  obtain ⟨h1, h2⟩ := hid_some.mp q
  exact hid_some.mpr ⟨fun z => h1 (h b z), e b o h2⟩
end

/-! ## the state -/
inductive Slot where
  | un | im (d : D) | mu (ds : List D)
abbrev Gm := List Slot
structure Cal where
  K : PySem.W.Frag
  J : JJ
  M : Addr → Prop
  H0 : Hp
structure Cfg extends Cal where
  f : Nat → Option Addr
  σ : L2.St
  γ : Gm
def Cfg.MT (c : Cfg) (b : Addr) : Prop := c.M b ∨ ∃ i, c.f i = some b
noncomputable abbrev Cfg.cl (c : Cfg) (H : Hp) : Hp := hid c.MT H
abbrev Cfg.wi (c : Cfg) (σ : L2.St) (γ : Gm) : Cfg := { c with σ := σ, γ := γ }

def big : Nat := 1100000
/-- the deck's records -/
def DeckOk : JJ → Hp → Prop
  | none, _ => True
  | some p, H => p.1 ≠ p.2 ∧ ∃ (cs : List Int) (x t : Int), H p.1 = some (.dK [(Sum.inr "cells", .ref p.2), (Sum.inr "mixed", .int x), (Sum.inr "turn", .int t)]) ∧
    H p.2 = some (.lst (cs.map V.int)) ∧ cs.length ≤ 63
def Fram (J : JJ) (H H' : Hp) : Prop := ∀ b o, ¬ dks J b → H b = some o → H' b = some o
structure Nxt (J : JJ) (H H' : Hp) : Prop where
  fr : Fram J H H'
  dk : DeckOk J H'
theorem Fram.trans {J : JJ} {H H1 H2 : Hp} (a : Fram J H H1) (b : Fram J H1 H2) : Fram J H H2 := fun c o n h => b c o n (a c o n h)
theorem Nxt.trans {J : JJ} {H H1 H2 : Hp} (a : Nxt J H H1) (b : Nxt J H1 H2) : Nxt J H H2 := ⟨a.fr.trans b.fr, b.dk⟩
theorem Fram.refl {J : JJ} {H : Hp} : Fram J H H := fun _ _ _ h => h
theorem DeckOk.dom {J : JJ} {H : Hp} (h : DeckOk J H) : ∀ b, dks J b → H b ≠ none := fun b hb => by
  cases J with
  | none => exact hb.elim
  | some p =>
    obtain ⟨_, cs, x, t, h1, h2, _⟩ := h
    rcases hb with e | e
    · rw [e, h1]; simp
    · rw [e, h2]; simp
theorem DeckOk.same {J : JJ} {H H' : Hp} (h : DeckOk J H) (e : Same H H') : DeckOk J H' := by
  cases J with
  | none => trivial
  | some p =>
    obtain ⟨n, cs, x, t, h1, h2, h3⟩ := h
    exact ⟨n, cs, x, t, e _ _ h1, e _ _ h2, h3⟩
theorem Nxt.same {J : JJ} {H H' : Hp} (h : DeckOk J H) (e : Same H H') : Nxt J H H' := ⟨fun b o _ q => e b o q, h.same e⟩

structure Stt (c : Cfg) (H : Hp) : Prop where
  len : c.σ.length = c.γ.length
  im : ∀ (i : Nat) (d : D), c.γ[i]? = some (Slot.im d) → ∃ v, c.σ[i]? = some (some v) ∧ Rp c.K c.J (c.cl H) d v
  mu : ∀ (i : Nat) (ds : List D), c.γ[i]? = some (Slot.mu ds) → ∃ a xs, c.f i = some a ∧ c.σ[i]? = some (some (.ref a)) ∧ H a = some (.lst xs) ∧ Rps c.K c.J (c.cl H) ds xs
  own : ∀ (i : Nat) (a : Addr), c.f i = some a → ¬ c.M a ∧ c.H0 a = none ∧ H a ≠ none
  inj : ∀ (i j : Nat) (a : Addr), c.f i = some a → c.f j = some a → i = j
  dom : ∀ b, c.M b → H b ≠ none
  dkM : ∀ b, dks c.J b → c.M b
  deck : DeckOk c.J H
  fr : Fram c.J c.H0 H
section
variable {c : Cfg} {H H' : Hp}
theorem Stt.domT (S : Stt c H) : ∀ b, c.MT b → H b ≠ none := fun b h => by
  rcases h with h | ⟨i, h⟩
  · exact S.dom b h
  · exact (S.own i b h).2.2
theorem Stt.same (S : Stt c H) (n : Nxt c.J H H') : Same (c.cl H) (c.cl H') := fun b o h => by
  obtain ⟨h1, h2⟩ := hid_some.mp h
  exact hid_some.mpr ⟨h1, n.fr b o (fun z => h1 (.inl (S.dkM b z))) h2⟩
theorem Fram.dom {J : JJ} (n : Nxt J H H') {b : Addr} (h : H b ≠ none) : H' b ≠ none := by
  by_cases z : dks J b
  · exact n.dk.dom b z
  · cases q : H b with
    | none => exact absurd q h
    | some o => rw [n.fr b o z q]; simp
theorem Stt.next (S : Stt c H) (n : Nxt c.J H H') : Stt c H' where
  len := S.len
  im := fun i d h => by
    obtain ⟨v, h1, h2⟩ := S.im i d h
    exact ⟨v, h1, h2.mono (S.same n)⟩
  mu := fun i ds h => by
    obtain ⟨a, xs, h1, h2, h3, h4⟩ := S.mu i ds h
    exact ⟨a, xs, h1, h2, n.fr a _ (fun z => (S.own i a h1).1 (S.dkM a z)) h3, h4.mono (S.same n)⟩
  own := fun i a h => ⟨(S.own i a h).1, (S.own i a h).2.1, Fram.dom n (S.own i a h).2.2⟩
  inj := S.inj
  dom := fun b h => Fram.dom n (S.dom b h)
  dkM := S.dkM
  deck := n.dk
  fr := S.fr.trans n.fr
theorem Stt.nx0 (S : Stt c H) : Nxt c.J H H := ⟨Fram.refl, S.deck⟩
end
end DL
/-! DL2 -/
set_option Elab.async false
set_option linter.all false
set_option maxRecDepth 100000
set_option maxHeartbeats 2100000
namespace DL
open PySem PySem.Spec L2 PyProof.Rows

abbrev WE := Gm → (D → Prop) → Prop
abbrev WT := Gm → (Bool → Prop) → Prop
abbrev WL := Gm → (List D → Prop) → Prop
/-- a reading of the layer below is told by one over data -/
def DE (K : PySem.W.Frag) (te : TE) (w : WE) : Prop := ∀ (c : Cfg) (H : Hp) (Q : D → Prop) (Qv : VK), c.K = K → Stt c H → w c.γ Q →
  (∀ v H' d, Nxt c.J H H' → Rp K c.J (c.cl H') d v → Q d → Qv v H') → te c.σ H Qv
def DT (K : PySem.W.Frag) (tt : TT) (w : WT) : Prop := ∀ (c : Cfg) (H : Hp) (Q : Bool → Prop) (Qv : Bool → Hp → Prop), c.K = K → Stt c H → w c.γ Q →
  (∀ b H', Nxt c.J H H' → Q b → Qv b H') → tt c.σ H Qv
def DA (K : PySem.W.Frag) (ta : TA) (w : WL) : Prop := ∀ (c : Cfg) (H : Hp) (Q : List D → Prop) (Qv : List V → Hp → Prop), c.K = K → Stt c H → w c.γ Q →
  (∀ vs H' ds, Nxt c.J H H' → Rps K c.J (c.cl H') ds vs → Q ds → Qv vs H') → ta c.σ H Qv
/-- a new list -/
def DN (K : PySem.W.Frag) (te : TE) (w : WL) : Prop := ∀ (c : Cfg) (H : Hp) (Q : List D → Prop) (Qv : VK), c.K = K → Stt c H → w c.γ Q →
  (∀ p xs H' ds, H p = none → Nxt c.J H H' → H' p = some (.lst xs) → Rps K c.J (hid (fun b => c.MT b ∨ b = p) H') ds xs → Q ds → Qv (.ref p) H') → te c.σ H Qv
/-- a list that is read: a new one, one that stands still, one of the def's own -/
def DS (K : PySem.W.Frag) (te : TE) (w : WL) : Prop := ∀ (c : Cfg) (H : Hp) (Q : List D → Prop) (Qv : VK), c.K = K → Stt c H → w c.γ Q →
  (∀ p xs H' ds, Nxt c.J H H' → ¬ dks c.J p → H' p = some (.lst xs) → Rps K c.J (c.cl H') ds xs → Q ds → Qv (.ref p) H') → te c.σ H Qv

structure QE (X : Cx) (e : Expr) (te : TE) (w : WE) : Prop where
  pe : PE X e te
  de : DE X.K te w
structure QT (X : Cx) (e : Expr) (tt : TT) (w : WT) : Prop where
  pt : PT X e tt
  dt : DT X.K tt w
structure QW (X : Cx) (e : Expr) (tt : TT) (w : WT) : Prop where
  pw : PW X e tt
  dt : DT X.K tt w
structure QA (X : Cx) (es : List Expr) (ta : TA) (w : WL) : Prop where
  pa : PA X es ta
  da : DA X.K ta w
structure QN (X : Cx) (e : Expr) (te : TE) (w : WL) : Prop where
  pe : PE X e te
  dn : DN X.K te w
structure QS (X : Cx) (e : Expr) (te : TE) (w : WL) : Prop where
  pe : PE X e te
  ds : DS X.K te w

section
variable {K : PySem.W.Frag} {c : Cfg} {H H' H1 H2 : Hp}
theorem Stt.rp {d : D} {v : V} (S : Stt c H) (n : Nxt c.J H H') (h : Rp K c.J (c.cl H) d v) : Rp K c.J (c.cl H') d v := h.mono (S.same n)
theorem Stt.rps {d : List D} {v : List V} (S : Stt c H) (n : Nxt c.J H H') (h : Rps K c.J (c.cl H) d v) : Rps K c.J (c.cl H') d v := h.mono (S.same n)
theorem Same.upd {p : Addr} {o : HO} (h : H p = none) : Same H (upd H p o) := fun b u q => by
  rw [upd_ne (ne_of_none q h)]; exact q
theorem Stt.new {p : Addr} {o : HO} (S : Stt c H) (h : H p = none) : Nxt c.J H (upd H p o) := Nxt.same S.deck (Same.upd h)
theorem Stt.fresh {p : Addr} (S : Stt c H) (h : H p = none) : ¬ c.MT p := fun z => S.domT p z h
theorem cl_new {p : Addr} {o : HO} (S : Stt c H) (h : H p = none) : (c.cl (upd H p o)) p = some o := hid_some.mpr ⟨S.fresh h, upd_same⟩
theorem cl_at {p : Addr} {o : HO} (h : c.cl H p = some o) : H p = some o := (hid_some.mp h).2
theorem Nxt.free (n : Nxt c.J H H') (S : Stt c H) {p : Addr} (h : H' p = none) : H p = none := by
  cases q : H p with
  | none => rfl
  | some o => exact absurd h (Fram.dom n (by rw [q]; simp))
end

/-! ## from one reading to another -/
section
variable {K : PySem.W.Frag} {te ta tb : TE} {wa wb : WE} {wl : WL}
theorem DN.de (h : DN K te wl) : DE K te fun γ Q => wl γ fun ds => Q (.lst ds) := by
  intro c H Q Qv e S hw k
  refine h c H _ Qv e S hw fun p xs H' ds hp n hx r q => ?_
  have np : ¬ c.MT p := S.fresh hp
  refine k _ H' (.lst ds) n ⟨p, xs, rfl, hid_some.mpr ⟨np, hx⟩, r.mono (hid_mono (fun b z => .inl z) (Same.refl _))⟩ q
theorem DN.ds (h : DN K te wl) : DS K te wl := by
  intro c H Q Qv e S hw k
  refine h c H _ Qv e S hw fun p xs H' ds hp n hx r q => ?_
  exact k p xs H' ds n (fun z => S.fresh hp (.inl (S.dkM p z))) hx (r.mono (hid_mono (fun b z => .inl z) (Same.refl _))) q
def wAsL (w : WE) : WL := fun γ Q => w γ fun d => match d with | .lst ds => Q ds | _ => False
theorem DE.ds (h : DE K te wa) : DS K te (wAsL wa) := by
  intro c H Q Qv e S hw k
  refine h c H _ Qv e S hw fun v H' d n r q => ?_
  cases d with
  | lst ds =>
    obtain ⟨a, xs, rfl, h1, h2⟩ := r
    obtain ⟨h3, h4⟩ := hid_some.mp h1
    exact k a xs H' ds n (fun z => h3 (.inl (S.dkM a z))) h4 h2 q
  | _ => exact q.elim
end
def wAsE (w : WL) : WE := fun γ Q => w γ fun ds => Q (.lst ds)
theorem QN.e {X : Cx} {e : Expr} {te : TE} {w : WL} (h : QN X e te w) : QE X e te (wAsE w) := ⟨h.pe, h.dn.de⟩
theorem QN.s {X : Cx} {e : Expr} {te : TE} {w : WL} (h : QN X e te w) : QS X e te w := ⟨h.pe, h.dn.ds⟩
theorem QE.s {X : Cx} {e : Expr} {te : TE} {w : WE} (h : QE X e te w) : QS X e te (wAsL w) := ⟨h.pe, h.de.ds⟩

/-! ## names, constants -/
section
variable {X : Cx}
def wVar (i : Nat) : WE := fun γ Q => match γ[i]? with | some (.im d) => Q d | _ => False
theorem de_var {K : PySem.W.Frag} {i : Nat} : DE K (tVar i) (wVar i) := by
  intro c H Q Qv e S hw k
  unfold wVar at hw
  split at hw
  · rename_i d h
    obtain ⟨v, h1, h2⟩ := S.im i d h
    exact ⟨v, h1, k v H d S.nx0 (e ▸ h2) hw⟩
  · exact hw.elim
/-- a list in a slot, its own or not -/
def wVarL (i : Nat) : WL := fun γ Q => match γ[i]? with | some (.im (.lst ds)) => Q ds | some (.mu ds) => Q ds | _ => False
theorem ds_var {K : PySem.W.Frag} {i : Nat} : DS K (tVar i) (wVarL i) := by
  intro c H Q Qv e S hw k
  unfold wVarL at hw
  split at hw
  · rename_i ds h
    obtain ⟨v, h1, a, xs, rfl, h3, h4⟩ := S.im i _ h
    obtain ⟨h5, h6⟩ := hid_some.mp h3
    exact ⟨_, h1, k a xs H ds S.nx0 (fun z => h5 (.inl (S.dkM a z))) h6 (e ▸ h4) hw⟩
  · rename_i ds h
    obtain ⟨a, xs, h0, h1, h3, h4⟩ := S.mu i _ h
    exact ⟨_, h1, k a xs H ds S.nx0 (fun z => (S.own i a h0).1 (S.dkM a z)) h3 (e ▸ h4) hw⟩
  · exact hw.elim
theorem qv (i : Nat) {x : Str} {pos : Pos} (hN : X.N[i]? = some x := by rfl) (hv : Vis X.env.scope x := by first | exact Or.inl rfl | exact Or.inr (Or.inl rfl) | exact Or.inr (Or.inr rfl)) (hd : (x == ("__debug__" : Str)) = false := by decide)
    (hcd : (x == ("__classdict__" : Str)) = false := by decide) : QE X (.Name x pos) (tVar i) (wVar i) := ⟨pe_var hN hv hd hcd, de_var⟩
theorem qvl (i : Nat) {x : Str} {pos : Pos} (hN : X.N[i]? = some x := by rfl) (hv : Vis X.env.scope x := by first | exact Or.inl rfl | exact Or.inr (Or.inl rfl) | exact Or.inr (Or.inr rfl)) (hd : (x == ("__debug__" : Str)) = false := by decide)
    (hcd : (x == ("__classdict__" : Str)) = false := by decide) : QS X (.Name x pos) (tVar i) (wVarL i) := ⟨pe_var hN hv hd hcd, ds_var⟩
def wC (d : D) : WE := fun _ Q => Q d
theorem de_c {K : PySem.W.Frag} {v : V} {d : D} (h : ∀ J H, Rp K J H d v) : DE K (tC v) (wC d) := by
  intro c H Q Qv e S hw k
  exact k v H d S.nx0 (h _ _) hw
theorem q_int {i j pos} : QE X (.Constant (.int i) j pos) (tC (.int i)) (wC (.int i)) := ⟨pe_int, de_c fun _ _ => rfl⟩
theorem q_bl {b j pos} : QE X (.Constant (.bool b) j pos) (tC (.bl b)) (wC (.bl b)) := ⟨pe_bl, de_c fun _ _ => rfl⟩
theorem q_non {j pos} : QE X (.Constant .none j pos) (tC .non) (wC .non) := ⟨pe_non, de_c fun _ _ => rfl⟩
theorem q_str {x j pos} : QE X (.Constant (.str x) j pos) (tC (.str x)) (wC (.str x)) := ⟨pe_str, de_c fun _ _ => rfl⟩
theorem q_gint {x : Str} {i : Int} {pos : Pos} (hg : Gl X x) (hm : ∃ t, X.mg x = some (.int i t)) (hd : (x == ("__debug__" : Str)) = false := by decide) : QE X (.Name x pos) (tC (.int i)) (wC (.int i)) := by
  obtain ⟨t, hm⟩ := hm
  exact ⟨pe_glob hg hm ⟨t, rfl⟩ hd, de_c fun _ _ => rfl⟩
theorem q_gstr {x y : Str} {pos : Pos} (hg : Gl X x) (hm : ∃ t, X.mg x = some (.str y t)) (hd : (x == ("__debug__" : Str)) = false := by decide) : QE X (.Name x pos) (tC (.str y)) (wC (.str y)) := by
  obtain ⟨t, hm⟩ := hm
  exact ⟨pe_glob hg hm ⟨t, rfl⟩ hd, de_c fun _ _ => rfl⟩
end

/-! ## operators -/
abbrev RW2 := D → D → (D → Prop) → Prop
def DR (K : PySem.W.Frag) (r : R2) (w : RW2) : Prop := ∀ (c : Cfg) (H : Hp) (x y : V) (dx dy : D) (Q : D → Prop) (Qv : VK), c.K = K → Stt c H → Rp K c.J (c.cl H) dx x → Rp K c.J (c.cl H) dy y → w dx dy Q →
  (∀ v H' d, Nxt c.J H H' → Rp K c.J (c.cl H') d v → Q d → Qv v H') → r x y H Qv
def wOp (r : RW2) (wa wb : WE) : WE := fun γ Q => wa γ fun x => wb γ fun y => r x y Q
section
variable {X : Cx} {K : PySem.W.Frag} {ta tb : TE} {wa wb : WE} {r : R2} {rw : RW2} {a b : Expr} {pos : Pos}
theorem de_op (ha : DE K ta wa) (hb : DE K tb wb) (hr : DR K r rw) : DE K (tOp r ta tb) (wOp rw wa wb) := by
  intro c H Q Qv e S hw k
  refine ha c H _ _ e S hw fun x H1 dx n1 r1 q1 => ?_
  refine hb c H1 _ _ e (S.next n1) q1 fun y H2 dy n2 r2 q2 => ?_
  have S1 := S.next n1
  have S2 := S1.next n2
  exact hr c H2 x y dx dy Q Qv e S2 (S1.rp n2 r1) r2 q2 fun v H3 d n3 r3 q3 => k v H3 d ((n1.trans n2).trans n3) r3 q3
def ii (f : Int → Int → (D → Prop) → Prop) : RW2 := fun x y Q => match x, y with | .int i, .int j => f i j Q | _, _ => False
theorem ii_of {f : Int → Int → (D → Prop) → Prop} {x y : D} {Q : D → Prop} (h : ii f x y Q) : ∃ i j, x = .int i ∧ y = .int j ∧ f i j Q := by
  unfold ii at h
  split at h
  · exact ⟨_, _, rfl, rfl, h⟩
  · exact h.elim
theorem dr_I0 {g : Int → Int → V} {g' : Int → Int → D} (hg : ∀ i j J H, Rp K J H (g' i j) (g i j)) : DR K (rI0 g) (ii fun i j Q => Q (g' i j)) := by
  intro c H x y dx dy Q Qv e S rx ry hw k
  obtain ⟨i, j, rfl, rfl, q⟩ := ii_of hw
  cases rx; cases ry
  exact ⟨i, j, rfl, rfl, k _ H _ S.nx0 (hg _ _ _ _) q⟩
theorem dr_I {C : Int → Int → Prop} {g : Int → Int → V} {g' : Int → Int → D} (hg : ∀ i j J H, Rp K J H (g' i j) (g i j)) : DR K (rI C g) (ii fun i j Q => C i j ∧ Q (g' i j)) := by
  intro c H x y dx dy Q Qv e S rx ry hw k
  obtain ⟨i, j, rfl, rfl, hc, q⟩ := ii_of hw
  cases rx; cases ry
  exact ⟨i, j, rfl, rfl, hc, k _ H _ S.nx0 (hg _ _ _ _) q⟩
def wAdd := wOp (ii fun i j Q => Q (.int (i + j)))
def wSub := wOp (ii fun i j Q => Q (.int (i - j)))
def wMul := wOp (ii fun i j Q => CMulW i j ∧ Q (.int (i * j)))
def wDiv := wOp (ii fun i j Q => CDivW i j ∧ Q (.int (i / j)))
def wMod := wOp (ii fun i j Q => 0 < j ∧ Q (.int (i % j)))
def wPow := wOp (ii fun i j Q => CPow i j ∧ Q (.int (i ^ j.toNat)))
variable {e f : Expr} {t1 t2 : TE} {w1 w2 : WE}
theorem q_add (h1 : QE X e t1 w1) (h2 : QE X f t2 w2) : QE X (.BinOp e .Add f pos) (tOp (rI0 fun i j => .int (i + j)) t1 t2) (wAdd w1 w2) := ⟨pe_op op_add h1.pe h2.pe, de_op h1.de h2.de (dr_I0 fun _ _ _ _ => rfl)⟩
theorem q_sub (h1 : QE X e t1 w1) (h2 : QE X f t2 w2) : QE X (.BinOp e .Sub f pos) (tOp (rI0 fun i j => .int (i - j)) t1 t2) (wSub w1 w2) := ⟨pe_op op_sub h1.pe h2.pe, de_op h1.de h2.de (dr_I0 fun _ _ _ _ => rfl)⟩
theorem q_mul (h1 : QE X e t1 w1) (h2 : QE X f t2 w2) : QE X (.BinOp e .Mult f pos) (tOp (rI CMulW fun i j => .int (i * j)) t1 t2) (wMul w1 w2) := ⟨pe_op op_mulW h1.pe h2.pe, de_op h1.de h2.de (dr_I fun _ _ _ _ => rfl)⟩
theorem q_div (h1 : QE X e t1 w1) (h2 : QE X f t2 w2) : QE X (.BinOp e .FloorDiv f pos) (tOp (rI CDivW fun i j => .int (i / j)) t1 t2) (wDiv w1 w2) := ⟨pe_op op_fdivW h1.pe h2.pe, de_op h1.de h2.de (dr_I fun _ _ _ _ => rfl)⟩
theorem q_mod (h1 : QE X e t1 w1) (h2 : QE X f t2 w2) : QE X (.BinOp e .Mod f pos) (tOp (rI (fun _ j => 0 < j) fun i j => .int (i % j)) t1 t2) (wMod w1 w2) := ⟨pe_op op_mod h1.pe h2.pe, de_op h1.de h2.de (dr_I fun _ _ _ _ => rfl)⟩
theorem q_pow (h1 : QE X e t1 w1) (h2 : QE X f t2 w2) : QE X (.BinOp e .Pow f pos) (tOp (rI CPow fun i j => .int (i ^ j.toNat)) t1 t2) (wPow w1 w2) := ⟨pe_op op_pow h1.pe h2.pe, de_op h1.de h2.de (dr_I fun _ _ _ _ => rfl)⟩
def wNeg (w : WE) : WE := fun γ Q => w γ fun d => match d with | .int i => Q (.int (-i)) | _ => False
theorem q_neg (h1 : QE X e t1 w1) : QE X (.UnaryOp .USub e pos) (tUn (rU fun i => .int (-i)) t1) (wNeg w1) := by
  refine ⟨pe_un un_neg h1.pe, ?_⟩
  intro c H Q Qv ek S hw k
  refine h1.de c H _ _ ek S hw fun v H' d n r q => ?_
  cases d with
  | int i => cases r; exact ⟨i, rfl, k _ H' (.int _) n rfl q⟩
  | _ => exact q.elim
/-- comparisons as values -/
def wLt := wOp (ii fun i j Q => Q (.bl (decide (i < j))))
def wLe := wOp (ii fun i j Q => Q (.bl (decide (i ≤ j))))
def wGt := wOp (ii fun i j Q => Q (.bl (decide (j < i))))
def wGe := wOp (ii fun i j Q => Q (.bl (decide (j ≤ i))))
def wEq := wOp (ii fun i j Q => Q (.bl (decide (i = j))))
def wNe := wOp (ii fun i j Q => Q (.bl (!decide (i = j))))
theorem dr_eqI : DR K rEq (ii fun i j Q => Q (.bl (decide (i = j)))) := by
  intro c H x y dx dy Q Qv e S rx ry hw k
  obtain ⟨i, j, rfl, rfl, q⟩ := ii_of hw
  cases rx; cases ry
  refine ⟨rfl, ?_⟩
  have e1 : decide (V.int i = V.int j) = decide (i = j) := by by_cases h : i = j <;> simp [h]
  rw [e1]
  exact k _ H (.bl _) S.nx0 rfl q
theorem dr_neI : DR K rNe (ii fun i j Q => Q (.bl (!decide (i = j)))) := by
  intro c H x y dx dy Q Qv e S rx ry hw k
  obtain ⟨i, j, rfl, rfl, q⟩ := ii_of hw
  cases rx; cases ry
  refine ⟨rfl, ?_⟩
  have e1 : decide (V.int i = V.int j) = decide (i = j) := by by_cases h : i = j <;> simp [h]
  rw [e1]
  exact k _ H (.bl _) S.nx0 rfl q
theorem q_lt (h1 : QE X e t1 w1) (h2 : QE X f t2 w2) : QE X (.Compare e [.Lt] [f] pos) (tOp (rI0 fun i j => .bl (decide (i < j))) t1 t2) (wLt w1 w2) := ⟨pe_cmpR op_lt h1.pe h2.pe (nomark _), de_op h1.de h2.de (dr_I0 fun _ _ _ _ => rfl)⟩
theorem q_le (h1 : QE X e t1 w1) (h2 : QE X f t2 w2) : QE X (.Compare e [.LtE] [f] pos) (tOp (rI0 fun i j => .bl (decide (i ≤ j))) t1 t2) (wLe w1 w2) := ⟨pe_cmpR op_le h1.pe h2.pe (nomark _), de_op h1.de h2.de (dr_I0 fun _ _ _ _ => rfl)⟩
theorem q_gt (h1 : QE X e t1 w1) (h2 : QE X f t2 w2) : QE X (.Compare e [.Gt] [f] pos) (tOp (rI0 fun i j => .bl (decide (j < i))) t1 t2) (wGt w1 w2) := ⟨pe_cmpR op_gt h1.pe h2.pe (nomark _), de_op h1.de h2.de (dr_I0 fun _ _ _ _ => rfl)⟩
theorem q_ge (h1 : QE X e t1 w1) (h2 : QE X f t2 w2) : QE X (.Compare e [.GtE] [f] pos) (tOp (rI0 fun i j => .bl (decide (j ≤ i))) t1 t2) (wGe w1 w2) := ⟨pe_cmpR op_ge h1.pe h2.pe (nomark _), de_op h1.de h2.de (dr_I0 fun _ _ _ _ => rfl)⟩
theorem q_eq (h1 : QE X e t1 w1) (h2 : QE X f t2 w2) : QE X (.Compare e [.Eq] [f] pos) (tOp rEq t1 t2) (wEq w1 w2) := ⟨pe_cmpR op_eq h1.pe h2.pe (nomark _), de_op h1.de h2.de dr_eqI⟩
theorem q_ne (h1 : QE X e t1 w1) (h2 : QE X f t2 w2) : QE X (.Compare e [.NotEq] [f] pos) (tOp rNe t1 t2) (wNe w1 w2) := ⟨pe_cmpR op_ne h1.pe h2.pe (nomark _), de_op h1.de h2.de dr_neI⟩
/-- texts -/
def ss (f : Str → Str → (D → Prop) → Prop) : RW2 := fun x y Q => match x, y with | .str i, .str j => f i j Q | _, _ => False
def wNeS := wOp (ss fun i j Q => Q (.bl (!decide (i = j))))
theorem dr_neS : DR K rNe (ss fun i j Q => Q (.bl (!decide (i = j)))) := by
  intro c H x y dx dy Q Qv e S rx ry hw k
  unfold ss at hw
  split at hw
  · rename_i i j
    cases rx; cases ry
    refine ⟨rfl, ?_⟩
    have e1 : decide (V.str i = V.str j) = decide (i = j) := by by_cases h : i = j <;> simp [h]
    rw [e1]
    exact k _ H (.bl _) S.nx0 rfl hw
  · exact hw.elim
theorem q_neS (h1 : QE X e t1 w1) (h2 : QE X f t2 w2) : QE X (.Compare e [.NotEq] [f] pos) (tOp rNe t1 t2) (wNeS w1 w2) := ⟨pe_cmpR op_ne h1.pe h2.pe (nomark _), de_op h1.de h2.de dr_neS⟩
/-- is None -/
def D.isN : D → Bool | .non => true | _ => false
theorem isN_of {J : JJ} {H : Hp} {d : D} {v : V} (r : Rp K J H d v) : decide (v = .non) = d.isN := by
  cases d with
  | non => cases r; rfl
  | bl _ => cases r; rfl
  | int _ => cases r; rfl
  | str _ => cases r; rfl
  | tup _ => obtain ⟨a, xs, rfl, _⟩ := r; rfl
  | lst _ => obtain ⟨a, xs, rfl, _⟩ := r; rfl
  | dct _ => obtain ⟨a, rfl, _⟩ := r; rfl
  | dk => obtain ⟨a, l, _, rfl⟩ := r; rfl
  | scr _ => obtain ⟨a, rfl, _⟩ := r; rfl
def wIsN (w : WE) : WE := fun γ Q => w γ fun d => Q (.bl d.isN)
def wNotN (w : WE) : WE := fun γ Q => w γ fun d => Q (.bl (!d.isN))
theorem q_isN {j p1} (h1 : QE X e t1 w1) : QE X (.Compare e [.Is] [.Constant .none j p1] pos) (tIsN t1) (wIsN w1) := by
  refine ⟨pe_cmp (pc_isN h1.pe) rfl, ?_⟩
  intro c H Q Qv ek S hw k
  refine h1.de c H _ _ ek S hw fun v H' d n r q => ?_
  rw [isN_of r]
  exact k _ H' (.bl _) n rfl q
theorem q_notN {j p1} (h1 : QE X e t1 w1) : QE X (.Compare e [.IsNot] [.Constant .none j p1] pos) (tNotN t1) (wNotN w1) := by
  refine ⟨pe_cmp (pc_notN h1.pe) rfl, ?_⟩
  intro c H Q Qv ek S hw k
  refine h1.de c H _ _ ek S hw fun v H' d n r q => ?_
  rw [isN_of r]
  exact k _ H' (.bl _) n rfl q
/-- a < b < c -/
def wChain (r r' : RW2) (wa wb wc : WE) : WE := fun γ Q => wa γ fun x => wb γ fun y => r x y fun z => match z with
  | .bl k => if k = true then wc γ fun u => r' y u Q else Q (.bl false)
  | _ => False
end
/-! ## truth, and, or -/
section
variable {X : Cx} {K : PySem.W.Frag} {e f a b : Expr} {t1 t2 : TE} {w1 w2 : WE} {u1 u2 : TT} {v1 v2 : WT} {pos : Pos} {rest : List Expr}
def wB (w : WE) : WT := fun γ Q => w γ fun d => match d with | .bl b => Q b | _ => False
theorem dt_B (h : DE K t1 w1) : DT K (tB t1) (wB w1) := by
  intro c H Q Qv ek S hw k
  refine h c H _ _ ek S hw fun v H' d n r q => ?_
  cases d with
  | bl b => cases r; exact ⟨b, rfl, k b H' n q⟩
  | _ => exact q.elim
theorem q_val (h : QE X e t1 w1) (he : ∀ whole, isTrue e X.env whole = (do let v ← whole; standAt e.pos; holding [v] (truthy v)) := by intro _; rfl) : QT X e (tB t1) (wB w1) := ⟨pt_val h.pe he, dt_B h.de⟩
theorem dt_test (h : DE K t1 w1) : DT K (tTest t1) (wB w1) := by
  intro c H Q Qv ek S hw k
  refine h c H _ _ ek S hw fun v H' d n r q => ?_
  cases d with
  | bl b => cases r; exact ⟨b, rfl, k b H' n q⟩
  | _ => exact q.elim
theorem t_lt (h1 : QE X e t1 w1) (h2 : QE X f t2 w2) : QT X (.Compare e [.Lt] [f] pos) (tTest (tOp (rI0 fun i j => .bl (decide (i < j))) t1 t2)) (wB (wLt w1 w2)) := ⟨pt_cmpR op_lt h1.pe h2.pe (nomark _), dt_test (de_op h1.de h2.de (dr_I0 fun _ _ _ _ => rfl))⟩
theorem t_le (h1 : QE X e t1 w1) (h2 : QE X f t2 w2) : QT X (.Compare e [.LtE] [f] pos) (tTest (tOp (rI0 fun i j => .bl (decide (i ≤ j))) t1 t2)) (wB (wLe w1 w2)) := ⟨pt_cmpR op_le h1.pe h2.pe (nomark _), dt_test (de_op h1.de h2.de (dr_I0 fun _ _ _ _ => rfl))⟩
theorem t_gt (h1 : QE X e t1 w1) (h2 : QE X f t2 w2) : QT X (.Compare e [.Gt] [f] pos) (tTest (tOp (rI0 fun i j => .bl (decide (j < i))) t1 t2)) (wB (wGt w1 w2)) := ⟨pt_cmpR op_gt h1.pe h2.pe (nomark _), dt_test (de_op h1.de h2.de (dr_I0 fun _ _ _ _ => rfl))⟩
theorem t_ge (h1 : QE X e t1 w1) (h2 : QE X f t2 w2) : QT X (.Compare e [.GtE] [f] pos) (tTest (tOp (rI0 fun i j => .bl (decide (j ≤ i))) t1 t2)) (wB (wGe w1 w2)) := ⟨pt_cmpR op_ge h1.pe h2.pe (nomark _), dt_test (de_op h1.de h2.de (dr_I0 fun _ _ _ _ => rfl))⟩
theorem t_eq (h1 : QE X e t1 w1) (h2 : QE X f t2 w2) : QT X (.Compare e [.Eq] [f] pos) (tTest (tOp rEq t1 t2)) (wB (wEq w1 w2)) := ⟨pt_cmpR op_eq h1.pe h2.pe (nomark _), dt_test (de_op h1.de h2.de dr_eqI)⟩
theorem t_ne (h1 : QE X e t1 w1) (h2 : QE X f t2 w2) : QT X (.Compare e [.NotEq] [f] pos) (tTest (tOp rNe t1 t2)) (wB (wNe w1 w2)) := ⟨pt_cmpR op_ne h1.pe h2.pe (nomark _), dt_test (de_op h1.de h2.de dr_neI)⟩
theorem t_neS (h1 : QE X e t1 w1) (h2 : QE X f t2 w2) : QT X (.Compare e [.NotEq] [f] pos) (tTest (tOp rNe t1 t2)) (wB (wNeS w1 w2)) := ⟨pt_cmpR op_ne h1.pe h2.pe (nomark _), dt_test (de_op h1.de h2.de dr_neS)⟩
theorem t_isN {j p1} (h1 : QE X e t1 w1) : QT X (.Compare e [.Is] [.Constant .none j p1] pos) (tB (tIsN t1)) (wB (wIsN w1)) := ⟨pt_cmp (pc_isN h1.pe) rfl, dt_B (q_isN (j := j) (p1 := p1) (pos := pos) h1).de⟩
theorem t_notN {j p1} (h1 : QE X e t1 w1) : QT X (.Compare e [.IsNot] [.Constant .none j p1] pos) (tB (tNotN t1)) (wB (wNotN w1)) := ⟨pt_cmp (pc_notN h1.pe) rfl, dt_B (q_notN (j := j) (p1 := p1) (pos := pos) h1).de⟩
def wAnd (v u : WT) : WT := fun γ Q => v γ fun b => if b = true then u γ Q else Q false
def wOr (v u : WT) : WT := fun γ Q => v γ fun b => if b = true then Q true else u γ Q
def wNot (v : WT) : WT := fun γ Q => v γ fun b => Q (!b)
theorem dt_and (h1 : DT K u1 v1) (h2 : DT K u2 v2) : DT K (tAnd u1 u2) (wAnd v1 v2) := by
  intro c H Q Qv ek S hw k
  refine h1 c H _ _ ek S hw fun b H1 n q => ?_
  cases b with
  | true => exact iteT (h2 c H1 _ _ ek (S.next n) (by simpa using q) fun b H2 n2 q2 => k b H2 (n.trans n2) q2)
  | false => exact iteF (k _ H1 n (by simpa using q))
theorem dt_or (h1 : DT K u1 v1) (h2 : DT K u2 v2) : DT K (tOr u1 u2) (wOr v1 v2) := by
  intro c H Q Qv ek S hw k
  refine h1 c H _ _ ek S hw fun b H1 n q => ?_
  cases b with
  | false => exact iteF (h2 c H1 _ _ ek (S.next n) (by simpa using q) fun b H2 n2 q2 => k b H2 (n.trans n2) q2)
  | true => exact iteT (k _ H1 n (by simpa using q))
theorem w_and1 (ha : QT X a u1 v1) : QW X (.BoolOp .And [a] pos) u1 v1 := ⟨pw_and1 ha.pt, ha.dt⟩
theorem w_or1 (ha : QT X a u1 v1) : QW X (.BoolOp .Or [a] pos) u1 v1 := ⟨pw_or1 ha.pt, ha.dt⟩
theorem w_and (ha : QT X a u1 v1) (hb : QW X (.BoolOp .And (b :: rest) pos) u2 v2) : QW X (.BoolOp .And (a :: b :: rest) pos) (tAnd u1 u2) (wAnd v1 v2) := ⟨pw_and ha.pt hb.pw, dt_and ha.dt hb.dt⟩
theorem w_or (ha : QT X a u1 v1) (hb : QW X (.BoolOp .Or (b :: rest) pos) u2 v2) : QW X (.BoolOp .Or (a :: b :: rest) pos) (tOr u1 u2) (wOr v1 v2) := ⟨pw_or ha.pt hb.pw, dt_or ha.dt hb.dt⟩
theorem QW.t (h : QW X e u1 v1) : QT X e u1 v1 := ⟨h.pw.pt, h.dt⟩
theorem t_not (ha : QT X a u1 v1) : QT X (.UnaryOp .Not a pos) (tNot u1) (wNot v1) := by
  refine ⟨pt_not ha.pt, ?_⟩
  intro c H Q Qv ek S hw k
  exact ha.dt c H _ _ ek S hw fun b H1 n q => k _ H1 n q
def wAndV (wa wb : WE) : WE := fun γ Q => wa γ fun d => match d with | .bl b => if b = true then wb γ Q else Q (.bl false) | _ => False
def wOrV (wa wb : WE) : WE := fun γ Q => wa γ fun d => match d with | .bl b => if b = true then Q (.bl true) else wb γ Q | _ => False
theorem q_one {op} (h : QE X a t1 w1) : QE X (.BoolOp op [a] pos) t1 w1 := ⟨pe_one h.pe, h.de⟩
theorem q_and (ha : QE X a t1 w1) (hb : QE X (.BoolOp .And (b :: rest) pos) t2 w2) : QE X (.BoolOp .And (a :: b :: rest) pos) (tAndV t1 t2) (wAndV w1 w2) := by
  refine ⟨pe_and ha.pe hb.pe, ?_⟩
  intro c H Q Qv ek S hw k
  refine ha.de c H _ _ ek S hw fun v H1 d n r q => ?_
  cases d with
  | bl b =>
    cases r
    refine ⟨b, rfl, ?_⟩
    cases b with
    | true => exact iteT (hb.de c H1 _ _ ek (S.next n) (by simpa using q) fun v H2 d n2 r2 q2 => k v H2 d (n.trans n2) r2 q2)
    | false => exact iteF (k _ H1 (.bl _) n rfl (by simpa using q))
  | _ => exact q.elim
theorem q_or (ha : QE X a t1 w1) (hb : QE X (.BoolOp .Or (b :: rest) pos) t2 w2) : QE X (.BoolOp .Or (a :: b :: rest) pos) (tOrV t1 t2) (wOrV w1 w2) := by
  refine ⟨pe_or ha.pe hb.pe, ?_⟩
  intro c H Q Qv ek S hw k
  refine ha.de c H _ _ ek S hw fun v H1 d n r q => ?_
  cases d with
  | bl b =>
    cases r
    refine ⟨b, rfl, ?_⟩
    cases b with
    | false => exact iteF (hb.de c H1 _ _ ek (S.next n) (by simpa using q) fun v H2 d n2 r2 q2 => k v H2 d (n.trans n2) r2 q2)
    | true => exact iteT (k _ H1 (.bl _) n rfl (by simpa using q))
  | _ => exact q.elim
def wNotV (w : WE) : WE := fun γ Q => w γ fun d => match d with | .bl b => Q (.bl (!b)) | _ => False
theorem q_not (ha : QE X a t1 w1) : QE X (.UnaryOp .Not a pos) (tNotV t1) (wNotV w1) := by
  refine ⟨pe_not ha.pe, ?_⟩
  intro c H Q Qv ek S hw k
  refine ha.de c H _ _ ek S hw fun v H1 d n r q => ?_
  cases d with
  | bl b => cases r; exact ⟨b, rfl, k _ H1 (.bl _) n rfl q⟩
  | _ => exact q.elim
def wIf (v : WT) (wa wb : WE) : WE := fun γ Q => v γ fun b => if b = true then wa γ Q else wb γ Q
theorem q_ifExp {cc : Expr} (hc : QT X cc u1 v1) (ha : QE X a t1 w1) (hb : QE X b t2 w2) : QE X (.IfExp cc a b pos) (tIf u1 t1 t2) (wIf v1 w1 w2) := by
  refine ⟨pe_ifExp hc.pt ha.pe hb.pe, ?_⟩
  intro c H Q Qv ek S hw k
  refine hc.dt c H _ _ ek S hw fun b H1 n q => ?_
  cases b with
  | true => exact iteT (ha.de c H1 _ _ ek (S.next n) (by simpa using q) fun v H2 d n2 r2 q2 => k v H2 d (n.trans n2) r2 q2)
  | false => exact iteF (hb.de c H1 _ _ ek (S.next n) (by simpa using q) fun v H2 d n2 r2 q2 => k v H2 d (n.trans n2) r2 q2)
end
end DL
/-! DL3 -/
set_option Elab.async false
set_option linter.all false
set_option maxRecDepth 100000
set_option maxHeartbeats 2100000
namespace DL
open PySem PySem.Spec L2 PyProof.Rows
/-! ## arguments, displays -/
theorem hid_or {c : Cfg} {H H' : Hp} {p : Addr} (e : Same H H') (hp : H p = none) : Same (c.cl H) (hid (fun b => c.MT b ∨ b = p) H') := fun b o q => by
  obtain ⟨h1, h2⟩ := hid_some.mp q
  exact hid_some.mpr ⟨fun z => z.elim h1 fun z => (by subst z; rw [hp] at h2; cases h2), e b o h2⟩
def atD (ds : List D) (i : Int) (Q : D → Prop) : Prop := match atI ds i with | some d => Q d | none => False
theorem atD_of {ds : List D} {i : Int} {Q : D → Prop} (h : atD ds i Q) : ∃ d, atI ds i = some d ∧ Q d := by
  unfold atD at h
  split at h
  · exact ⟨_, by assumption, h⟩
  · exact h.elim
theorem atI_rps {K : PySem.W.Frag} {J : JJ} {H : Hp} {ds : List D} {vs : List V} {i : Int} {d : D} (r : Rps K J H ds vs) (h : atI ds i = some d) : ∃ v, atI vs i = some v ∧ Rp K J H d v := by
  unfold atI at h ⊢
  rw [r.len]
  cases q : ixN ds.length i with
  | none => rw [q] at h; cases h
  | some j =>
    rw [q] at h
    exact r.get h
def wNil : WL := fun _ Q => Q []
def wCons (w : WE) (r : WL) : WL := fun γ Q => w γ fun d => r γ fun ds => Q (d :: ds)
/-- a short list -/
abbrev few (ds : List D) : Prop := Nat.ble ds.length 1000 = true
theorem few_le {ds : List D} (h : few ds) : ds.length ≤ sizeLine := Nat.le_trans (Nat.le_of_ble_eq_true h) (by decide)
def wTup (r : WL) : WE := fun γ Q => r γ fun ds => few ds ∧ Q (.tup ds)
def wLst (r : WL) : WL := fun γ Q => r γ fun ds => few ds ∧ Q ds
def ixT : RW2 := fun x y Q => match x, y with | .tup ds, .int i => atD ds i Q | _, _ => False
def wIxT (wa wb : WE) : WE := wOp ixT wa wb
def wIxL (wl : WL) (wb : WE) : WE := fun γ Q => wl γ fun ds => wb γ fun y => match y with | .int i => atD ds i Q | _ => False
/-- xs + ys, xs * k: new lists -/
def wCat (w1 w2 : WL) : WL := fun γ Q => w1 γ fun ds => w2 γ fun es => ds.length + es.length ≤ sizeLine ∧ Q (ds ++ es)
def wRep (wl : WL) (wb : WE) : WL := fun γ Q => wl γ fun ds => wb γ fun y => match y with | .int k => (-(2 ^ 63) ≤ k ∧ k < 2 ^ 63 ∧ ds.length * k.toNat ≤ sizeLine) ∧ Q (List.replicate k.toNat ds).flatten | _ => False
/-- slices -/
def WO := Gm → (Option Int → Prop) → Prop
def woN : WO := fun _ Q => Q none
def woS (w : WE) : WO := fun γ Q => w γ fun d => match d with | .int i => Q (some i) | _ => False
def cutD (ds : List D) (lo hi : Option Int) : List D := (ds.drop (HT.sIx ds.length 0 lo)).take (HT.sIx ds.length ds.length hi - HT.sIx ds.length 0 lo)
def wSlL (wl : WL) (lo hi : WO) : WL := fun γ Q => wl γ fun ds => lo γ fun a => hi γ fun b => Q (cutD ds a b)
def wSlT (w : WE) (lo hi : WO) : WE := fun γ Q => w γ fun d => lo γ fun a => hi γ fun b => match d with
  | .tup ds => ¬ (HT.sIx ds.length 0 a = 0 ∧ HT.sIx ds.length ds.length b = ds.length) ∧ Q (.tup (cutD ds a b)) | _ => False
def wRevL (wl : WL) : WL := fun γ Q => wl γ fun ds => Q ds.reverse
def DO (K : PySem.W.Frag) (to : TO) (w : WO) : Prop := ∀ (c : Cfg) (H : Hp) (Q : Option Int → Prop) (Qv : Option Int → Hp → Prop), c.K = K → Stt c H → w c.γ Q → (∀ o H', Nxt c.J H H' → Q o → Qv o H') → to c.σ H Qv
theorem rps_cut {K : PySem.W.Frag} {J : JJ} {H : Hp} {ds : List D} {xs : List V} {lo hi : Option Int} (r : Rps K J H ds xs) : Rps K J H (cutD ds lo hi) (cutV xs lo hi) := by
  unfold cutD cutV
  rw [r.len]
  exact (r.drop _).take _
section
variable {K : PySem.W.Frag} {t1 t2 te : TE} {w1 w2 : WE} {ta : TA} {wa wl wl2 : WL} {tl th : TO} {lo hi : WO}
theorem da_nil : DA K tNil wNil := by
  intro c H Q Qv ek S hw k
  exact k [] H [] S.nx0 rfl hw
theorem da_cons (h : DE K t1 w1) (hr : DA K ta wa) : DA K (tCons t1 ta) (wCons w1 wa) := by
  intro c H Q Qv ek S hw k
  subst ek
  refine h c H _ _ rfl S hw fun v H1 d n r q => ?_
  refine hr c H1 _ _ rfl (S.next n) q fun vs H2 ds n2 r2 q2 => ?_
  exact k _ H2 (d :: ds) (n.trans n2) ⟨v, vs, rfl, (S.next n).rp n2 r, r2⟩ q2
theorem de_tup (h : DA K ta wa) : DE K (tTup ta) (wTup wa) := by
  intro c H Q Qv ek S hw k
  subst ek
  refine h c H _ _ rfl S hw fun vs H1 ds n r q => ⟨by rw [r.len]; exact few_le q.1, fun p hp => ?_⟩
  have S1 := S.next n
  exact k _ _ (.tup ds) (n.trans (S1.new hp)) ⟨p, vs, rfl, cl_new S1 hp, S1.rps (S1.new hp) r⟩ q.2
theorem dn_lst (h : DA K ta wa) : DN K (tLst ta) (wLst wa) := by
  intro c H Q Qv ek S hw k
  subst ek
  refine h c H _ _ rfl S hw fun vs H1 ds n r q => ⟨by rw [r.len]; exact few_le q.1, fun p hp => ?_⟩
  have S1 := S.next n
  exact k p vs _ ds (n.free S hp) (n.trans (S1.new hp)) upd_same (r.mono (hid_or (Same.upd hp) hp)) q.2
theorem dr_ixT : DR K (rIxT K) ixT := by
  intro c H x y dx dy Q Qv ek S r1 r2 hw k
  unfold ixT at hw
  split at hw
  · rename_i ds i
    obtain ⟨p, xs, rfl, h1, h2⟩ := r1
    cases r2
    obtain ⟨d, e1, q3⟩ := atD_of hw
    obtain ⟨v, e2, r3⟩ := atI_rps h2 e1
    exact ⟨p, xs, i, v, rfl, rfl, SqT.of (cl_at h1), e2, k v H d S.nx0 r3 q3⟩
  · exact hw.elim
theorem de_ixL (h : DS K t1 wl) (hb : DE K t2 w2) : DE K (tOp (rIxL K) t1 t2) (wIxL wl w2) := by
  intro c H Q Qv ek S hw k
  subst ek
  refine h c H _ _ rfl S hw fun p xs H1 ds n1 nd h1 r1 q1 => ?_
  refine hb c H1 _ _ rfl (S.next n1) q1 fun y H2 dy n2 r2 q2 => ?_
  cases dy with
  | int i =>
    cases r2
    obtain ⟨d, e1, q3⟩ := atD_of q2
    obtain ⟨v, e2, r3⟩ := atI_rps ((S.next n1).rps n2 r1) e1
    exact ⟨p, xs, i, v, rfl, rfl, SqL.of (n2.fr p _ nd h1), e2, k v H2 d (n1.trans n2) r3 q3⟩
  | _ => exact q2.elim
theorem dn_cat (h1 : DS K t1 wl) (h2 : DS K t2 wl2) : DN K (tOp rCat t1 t2) (wCat wl wl2) := by
  intro c H Q Qv ek S hw k
  subst ek
  refine h1 c H _ _ rfl S hw fun p xs H1 ds n1 nd hp r1 q1 => ?_
  refine h2 c H1 _ _ rfl (S.next n1) q1 fun q ys H2 es n2 nd2 hq r2 q2 => ?_
  have S1 := S.next n1
  have S2 := S1.next n2
  have r1' := S1.rps n2 r1
  refine ⟨p, q, xs, ys, rfl, rfl, n2.fr p _ nd hp, hq, by rw [r1'.len, r2.len]; exact q2.1, fun l hl => ?_⟩
  have n12 := n1.trans n2
  exact k l _ _ _ (n12.free S hl) (n12.trans (S2.new hl)) upd_same ((r1'.app r2).mono (hid_or (Same.upd hl) hl)) q2.2
theorem dn_rep (h1 : DS K t1 wl) (h2 : DE K t2 w2) : DN K (tOp rRep t1 t2) (wRep wl w2) := by
  intro c H Q Qv ek S hw k
  subst ek
  refine h1 c H _ _ rfl S hw fun p xs H1 ds n1 nd hp r1 q1 => ?_
  refine h2 c H1 _ _ rfl (S.next n1) q1 fun y H2 dy n2 r2 q2 => ?_
  have S1 := S.next n1
  have S2 := S1.next n2
  have r1' := S1.rps n2 r1
  cases dy with
  | int i =>
    cases r2
    refine ⟨p, i, xs, rfl, rfl, n2.fr p _ nd hp, q2.1.1, q2.1.2.1, by rw [r1'.len]; exact q2.1.2.2, fun l hl => ?_⟩
    have n12 := n1.trans n2
    exact k l _ _ _ (n12.free S hl) (n12.trans (S2.new hl)) upd_same ((r1'.rep _).mono (hid_or (Same.upd hl) hl)) q2.2
  | _ => exact q2.elim
theorem do_none : DO K tNoPart woN := by
  intro c H Q Qv ek S hw k
  exact k none H S.nx0 hw
theorem do_some (h : DE K te w1) : DO K (tPart te) (woS w1) := by
  intro c H Q Qv ek S hw k
  refine h c H _ _ ek S hw fun v H1 d n r q => ?_
  cases d with
  | int i => cases r; exact ⟨i, rfl, k _ H1 n q⟩
  | _ => exact q.elim
theorem dn_slL (h : DS K te wl) (h1 : DO K tl lo) (h2 : DO K th hi) : DN K (tSl (rSlL K) te tl th) (wSlL wl lo hi) := by
  intro c H Q Qv ek S hw k
  subst ek
  refine h c H _ _ rfl S hw fun p xs H1 ds n1 nd hp r1 q1 => ?_
  have S1 := S.next n1
  refine h1 c H1 _ _ rfl S1 q1 fun a H2 n2 q2 => ?_
  have S2 := S1.next n2
  refine h2 c H2 _ _ rfl S2 q2 fun b H3 n3 q3 => ?_
  have S3 := S2.next n3
  have n23 := n2.trans n3
  refine ⟨p, xs, rfl, SqL.of (n23.fr p _ nd hp), fun l hl => ?_⟩
  have n13 := n1.trans n23
  exact k l _ _ _ (n13.free S hl) (n13.trans (S3.new hl)) upd_same ((rps_cut (S1.rps n23 r1)).mono (hid_or (Same.upd hl) hl)) q3
theorem de_slT (h : DE K te w1) (h1 : DO K tl lo) (h2 : DO K th hi) : DE K (tSl (rSlT K) te tl th) (wSlT w1 lo hi) := by
  intro c H Q Qv ek S hw k
  subst ek
  refine h c H _ _ rfl S hw fun x H1 d n1 r1 q1 => ?_
  have S1 := S.next n1
  refine h1 c H1 _ _ rfl S1 q1 fun a H2 n2 q2 => ?_
  have S2 := S1.next n2
  refine h2 c H2 _ _ rfl S2 q2 fun b H3 n3 q3 => ?_
  have S3 := S2.next n3
  have n23 := n2.trans n3
  cases d with
  | tup ds =>
    obtain ⟨p, xs, rfl, hp, r2⟩ := S1.rp n23 r1
    refine ⟨p, xs, rfl, SqT.of (cl_at hp), by rw [r2.len]; exact q3.1, fun l hl => ?_⟩
    exact k _ _ (.tup _) ((n1.trans n23).trans (S3.new hl)) ⟨l, _, rfl, cl_new S3 hl, S3.rps (S3.new hl) (rps_cut r2)⟩ q3.2
  | _ => exact q3.elim
theorem dn_revL (h : DS K te wl) : DN K (tRevL K te) (wRevL wl) := by
  intro c H Q Qv ek S hw k
  subst ek
  refine h c H _ _ rfl S hw fun p xs H1 ds n1 nd hp r1 q1 => ⟨p, xs, rfl, SqL.of hp, fun l hl => ?_⟩
  exact k l _ _ _ (n1.free S hl) (n1.trans ((S.next n1).new hl)) upd_same (r1.rev.mono (hid_or (Same.upd hl) hl)) q1
end
section
variable {X : Cx} {e f : Expr} {es : List Expr} {t1 t2 te : TE} {w1 w2 : WE} {ta : TA} {wa wl wl2 : WL} {pos p2 : Pos} {tl th : TO} {wlo whi : WO} {lo hi : Option Expr}
theorem qa_nil : QA X [] tNil wNil := ⟨pa_nil, da_nil⟩
theorem qa_cons (h : QE X e t1 w1) (hr : QA X es ta wa) (hs : starEach (e :: es) X.env = (false, eval e X.env) :: starEach es X.env := by rfl) : QA X (e :: es) (tCons t1 ta) (wCons w1 wa) := ⟨pa_cons h.pe hr.pa hs, da_cons h.de hr.da⟩
theorem q_tup {x1} (h : QA X es ta wa) : QE X (.Tuple es x1 pos) (tTup ta) (wTup wa) := ⟨pe_tup h.pa, de_tup h.da⟩
theorem n_lst (h : QA X es ta wa) : QN X (.List es pos) (tLst ta) (wLst wa) := ⟨pe_lst h.pa, dn_lst h.da⟩
theorem q_ixT (ha : QE X e t1 w1) (hb : QE X f t2 w2) (hs : PlainIx f := by intro _ _; rfl) : QE X (.Subscript e f pos) (tOp (rIxT X.K) t1 t2) (wIxT w1 w2) := ⟨pe_ix ix_tup ha.pe hb.pe hs, de_op ha.de hb.de dr_ixT⟩
theorem q_ixL (ha : QS X e t1 wl) (hb : QE X f t2 w2) (hs : PlainIx f := by intro _ _; rfl) : QE X (.Subscript e f pos) (tOp (rIxL X.K) t1 t2) (wIxL wl w2) := ⟨pe_ix ix_list ha.pe hb.pe hs, de_ixL ha.ds hb.de⟩
theorem n_cat (ha : QS X e t1 wl) (hb : QS X f t2 wl2) : QN X (.BinOp e .Add f pos) (tOp rCat t1 t2) (wCat wl wl2) := ⟨pe_op op_cat ha.pe hb.pe, dn_cat ha.ds hb.ds⟩
theorem n_rep (ha : QS X e t1 wl) (hb : QE X f t2 w2) : QN X (.BinOp e .Mult f pos) (tOp rRep t1 t2) (wRep wl w2) := ⟨pe_op op_rep ha.pe hb.pe, dn_rep ha.ds hb.de⟩
structure QO (X : Cx) (e : Option Expr) (to : TO) (w : WO) : Prop where
  po : PO X e to
  dO : DO X.K to w
theorem qo_none : QO X none tNoPart woN := ⟨po_none, do_none⟩
theorem qo_some (h : QE X e te w1) : QO X (some e) (tPart te) (woS w1) := ⟨po_some h.pe, do_some h.de⟩
theorem n_slL (h : QS X e te wl) (h1 : QO X lo tl wlo) (h2 : QO X hi th whi) : QN X (.Subscript e (.Slice lo hi none p2) pos) (tSl (rSlL X.K) te tl th) (wSlL wl wlo whi) := ⟨pe_slice sl_list h.pe h1.po h2.po, dn_slL h.ds h1.dO h2.dO⟩
theorem q_slT (h : QE X e te w1) (h1 : QO X lo tl wlo) (h2 : QO X hi th whi) : QE X (.Subscript e (.Slice lo hi none p2) pos) (tSl (rSlT X.K) te tl th) (wSlT w1 wlo whi) := ⟨pe_slice sl_tup h.pe h1.po h2.po, de_slT h.de h1.dO h2.dO⟩
theorem n_revL {k : Nat} {p1 p3 p4 : Pos} (h : QS X e te wl) : QN X (.Subscript e (.Slice none none (some (.UnaryOp .USub (.Constant (.int 1) k p1) p4)) p3) pos) (tRevL X.K te) (wRevL wl) := ⟨pe_revL h.pe, dn_revL h.ds⟩
end

/-! ## calls of built-in functions -/
def DC (K : PySem.W.Frag) (r : List V → Hp → VK → Prop) (w : List D → (D → Prop) → Prop) : Prop := ∀ (c : Cfg) (H : Hp) (vs : List V) (ds : List D) (Q : D → Prop) (Qv : VK), c.K = K → Stt c H → Rps K c.J (c.cl H) ds vs → w ds Q →
  (∀ v H' d, Nxt c.J H H' → Rp K c.J (c.cl H') d v → Q d → Qv v H') → r vs H Qv
def wCB (w : List D → (D → Prop) → Prop) (wa : WL) : WE := fun γ Q => wa γ fun ds => w ds Q
section
variable {K : PySem.W.Frag} {ta : TA} {wa : WL} {r : List V → Hp → VK → Prop} {w : List D → (D → Prop) → Prop}
theorem de_cb (h : DA K ta wa) (hr : DC K r w) : DE K (tCB r ta) (wCB w wa) := by
  intro c H Q Qv ek S hw k
  refine h c H _ _ ek S hw fun vs H1 ds n r q => ?_
  exact hr c H1 vs ds _ _ ek (S.next n) r q fun v H2 d n2 r2 q2 => k v H2 d (n.trans n2) r2 q2
end
/-- one argument, a list that is read -/
def wCL (w : List D → (D → Prop) → Prop) (wl : WL) : WE := fun γ Q => wl γ fun ds => w ds Q
def DCL (K : PySem.W.Frag) (r : List V → Hp → VK → Prop) (w : List D → (D → Prop) → Prop) : Prop := ∀ (c : Cfg) (H : Hp) (p : Addr) (xs : List V) (ds : List D) (Q : D → Prop) (Qv : VK), c.K = K → Stt c H → ¬ dks c.J p → H p = some (.lst xs) → Rps K c.J (c.cl H) ds xs → w ds Q →
  (∀ v H' d, Nxt c.J H H' → Rp K c.J (c.cl H') d v → Q d → Qv v H') → r [.ref p] H Qv
theorem de_cl {K : PySem.W.Frag} {te : TE} {wl : WL} {r : List V → Hp → VK → Prop} {w : List D → (D → Prop) → Prop} (h : DS K te wl) (hr : DCL K r w) : DE K (tCB r (tCons te tNil)) (wCL w wl) := by
  intro c H Q Qv ek S hw k
  refine h c H _ _ ek S hw fun p xs H1 ds n nd hp r q => ?_
  exact hr c H1 p xs ds _ _ ek (S.next n) nd hp r q fun v H2 d n2 r2 q2 => k v H2 d (n.trans n2) r2 q2
section
variable {K : PySem.W.Frag}
def D.asInts : List D → Option (List Int)
  | [] => some []
  | .int i :: r => (D.asInts r).map (i :: ·)
  | _ :: _ => none
theorem D.asInts_eq : ∀ {ds : List D} {ns : List Int}, D.asInts ds = some ns → ds = ns.map D.int
  | [], _, h => by cases h; rfl
  | .int i :: r, ns, h => by
    unfold D.asInts at h
    cases q : D.asInts r with
    | none => rw [q] at h; cases h
    | some ms =>
      rw [q] at h
      cases h
      rw [D.asInts_eq q]; rfl
  | .non :: _, _, h => by cases h
  | .bl _ :: _, _, h => by cases h
  | .str _ :: _, _, h => by cases h
  | .tup _ :: _, _, h => by cases h
  | .lst _ :: _, _, h => by cases h
  | .dct _ :: _, _, h => by cases h
  | .dk :: _, _, h => by cases h
  | .scr _ :: _, _, h => by cases h
theorem D.asInts_map (ns : List Int) : D.asInts (ns.map D.int) = some ns := by
  induction ns with
  | nil => rfl
  | cons n ns ih => simp [D.asInts, ih]
def wsSum : List D → (D → Prop) → Prop := fun ds Q => ∃ ns : List Int, ds = ns.map D.int ∧ Q (.int ns.sum)
theorem dc_sum : DCL K (rSum K) wsSum := by
  intro c H p xs ds Q Qv ek S nd hp r hw k
  obtain ⟨ns, rfl, q⟩ := hw
  have e := r.ints
  subst e
  exact ⟨p, ns, rfl, SqL.of hp, k _ H (.int _) S.nx0 rfl q⟩
def wsMin : List D → (D → Prop) → Prop := fun ds Q => ∃ ns : List Int, ds = ns.map D.int ∧ 0 < ns.length ∧ ∀ m, m ∈ ns → (∀ y, y ∈ ns → m ≤ y) → Q (.int m)
theorem dc_min : DCL K (rMin K) wsMin := by
  intro c H p xs ds Q Qv ek S nd hp r hw k
  obtain ⟨ns, rfl, h0, q⟩ := hw
  have e := r.ints
  subst e
  exact ⟨p, ns, rfl, SqL.of hp, h0, fun m h1 h2 => k _ H (.int _) S.nx0 rfl (q m h1 h2)⟩
def wsAll : List D → (D → Prop) → Prop := fun ds Q => ∃ bs : List Bool, ds = bs.map D.bl ∧ Q (.bl (bs.all id))
theorem dc_all : DCL K (rAll K) wsAll := by
  intro c H p xs ds Q Qv ek S nd hp r hw k
  obtain ⟨ns, rfl, q⟩ := hw
  have e := r.bls
  subst e
  exact ⟨p, ns, rfl, SqL.of hp, k _ H (.bl _) S.nx0 rfl q⟩
abbrev rLenQ (K : PySem.W.Frag) : List V → Hp → VK → Prop := fun xs H Q => ∃ p ys, xs = [.ref p] ∧ (SqL K H p ys ∨ SqT K H p ys) ∧ Q (.int ys.length) H
def wsLen : List D → (D → Prop) → Prop := fun ds Q => Q (.int ds.length)
theorem dc_lenL : DCL K (rLenQ K) wsLen := by
  intro c H p xs ds Q Qv ek S nd hp r hw k
  refine ⟨p, xs, rfl, .inl (SqL.of hp), ?_⟩
  rw [r.len]
  exact k _ H (.int _) S.nx0 rfl hw
def wsLenT : List D → (D → Prop) → Prop := fun ds Q => match ds with | [.tup es] => Q (.int es.length) | _ => False
theorem dc_lenT : DC K (rLenQ K) wsLenT := by
  intro c H vs ds Q Qv ek S r hw k
  unfold wsLenT at hw
  split at hw
  · rename_i es
    obtain ⟨v, r', rfl, ⟨a, xs, rfl, h1, h2⟩, h3⟩ := r
    cases h3
    refine ⟨a, xs, rfl, .inr (SqT.of (cl_at h1)), ?_⟩
    rw [h2.len]
    exact k _ H (.int _) S.nx0 rfl hw
  · exact hw.elim
abbrev rTupQ (K : PySem.W.Frag) : List V → Hp → VK → Prop := fun xs H Q => ∃ p ys, xs = [.ref p] ∧ ((SqL K H p ys ∧ ∀ l, H l = none → Q (.ref l) (upd H l (.tup ys))) ∨ (SqT K H p ys ∧ Q (.ref p) H))
def wsTup : List D → (D → Prop) → Prop := fun ds Q => Q (.tup ds)
theorem dc_tupL : DCL K (rTupQ K) wsTup := by
  intro c H p xs ds Q Qv ek S nd hp r hw k
  subst ek
  refine ⟨p, xs, rfl, .inl ⟨SqL.of hp, fun l hl => ?_⟩⟩
  exact k _ _ (.tup ds) (S.new hl) ⟨l, xs, rfl, cl_new S hl, S.rps (S.new hl) r⟩ hw
abbrev rListQ (K : PySem.W.Frag) : List V → Hp → VK → Prop := fun xs H Q => ∃ p ys, xs = [.ref p] ∧ (SqL K H p ys ∨ SqT K H p ys) ∧ ∀ l, H l = none → Q (.ref l) (upd H l (.lst ys))
/-- list(xs): a new list -/
def wListL (wl : WL) : WL := wl
theorem dn_list {te : TE} {wl : WL} (h : DS K te wl) : DN K (tCB (rListQ K) (tCons te tNil)) (wListL wl) := by
  intro c H Q Qv ek S hw k
  subst ek
  refine h c H _ _ rfl S hw fun p xs H1 ds n nd hp r q => ?_
  refine ⟨p, xs, rfl, .inl (SqL.of hp), fun l hl => ?_⟩
  exact k l xs _ ds (n.free S hl) (n.trans ((S.next n).new hl)) upd_same (r.mono (hid_or (Same.upd hl) hl)) q
def wsGcd : List D → (D → Prop) → Prop := fun ds Q => match ds with | [.int a, .int b] => Q (.int ((Nat.gcd a.natAbs b.natAbs : Nat) : Int)) | _ => False
theorem two_of {J : JJ} {H : Hp} {a b : D} {vs : List V} (r : Rps K J H [a, b] vs) : ∃ x y, vs = [x, y] ∧ Rp K J H a x ∧ Rp K J H b y := by
  obtain ⟨x, r1, rfl, h1, y, r2, rfl, h2, rfl⟩ := r
  exact ⟨x, y, rfl, h1, h2⟩
theorem one_of {J : JJ} {H : Hp} {a : D} {vs : List V} (r : Rps K J H [a] vs) : ∃ x, vs = [x] ∧ Rp K J H a x := by
  obtain ⟨x, r1, rfl, h1, rfl⟩ := r
  exact ⟨x, rfl, h1⟩
theorem dc_gcd : DC K rGcd wsGcd := by
  intro c H vs ds Q Qv ek S r hw k
  unfold wsGcd at hw
  split at hw
  · rename_i a b
    obtain ⟨x, y, rfl, h1, h2⟩ := two_of r
    cases h1; cases h2
    exact ⟨a, b, rfl, k _ H (.int _) S.nx0 rfl hw⟩
  · exact hw.elim
def ws2 (f : Int → Int → Int) : List D → (D → Prop) → Prop := fun ds Q => match ds with | [.int a, .int b] => Q (.int (f a b)) | _ => False
def ws1 (f : Int → Int) : List D → (D → Prop) → Prop := fun ds Q => match ds with | [.int a] => Q (.int (f a)) | _ => False
theorem dc_2 {f : Int → Int → Int} : DC K (fun xs H Q => ∃ i j, xs = [.int i, .int j] ∧ Q (.int (f i j)) H) (ws2 f) := by
  intro c H vs ds Q Qv ek S r hw k
  unfold ws2 at hw
  split at hw
  · rename_i a b
    obtain ⟨x, y, rfl, h1, h2⟩ := two_of r
    cases h1; cases h2
    exact ⟨a, b, rfl, k _ H (.int _) S.nx0 rfl hw⟩
  · exact hw.elim
theorem dc_1 {f : Int → Int} : DC K (fun xs H Q => ∃ i, xs = [.int i] ∧ Q (.int (f i)) H) (ws1 f) := by
  intro c H vs ds Q Qv ek S r hw k
  unfold ws1 at hw
  split at hw
  · rename_i a
    obtain ⟨x, rfl, h1⟩ := one_of r
    cases h1
    exact ⟨a, rfl, k _ H (.int _) S.nx0 rfl hw⟩
  · exact hw.elim
abbrev rInt1 : List V → Hp → VK → Prop := fun xs H Q => (∃ i, xs = [.int i] ∧ Q (.int i) H) ∨ ∃ k, xs = [.bl k] ∧ Q (.int (if k then 1 else 0)) H
theorem dc_int : DC K rInt1 (ws1 fun i => i) := by
  intro c H vs ds Q Qv ek S r hw k
  unfold ws1 at hw
  split at hw
  · rename_i a
    obtain ⟨x, rfl, h1⟩ := one_of r
    cases h1
    exact .inl ⟨a, rfl, k _ H (.int _) S.nx0 rfl hw⟩
  · exact hw.elim
/-- isinstance(x, T) for a tuple, an int -/
def isR : D → String → Option Bool
  | .tup _, "tuple" => some true
  | .int _, "int" => some true
  | .int _, "bool" => some false
  | _, _ => none
def wIsi (T : String) (w : WE) : WE := fun γ Q => w γ fun d => match isR d T with | some b => Q (.bl b) | none => False
theorem de_isi {te : TE} {w : WE} {T : String} (h : DE K te w) : DE K (tCB (rIsi K) (tCons te (tCons (tC (.ty T)) tNil))) (wIsi T w) := by
  intro c H Q Qv ek S hw k
  refine h c H _ _ ek S hw fun v H1 d n r q => ?_
  show rIsi K [v, .ty T] H1 Qv
  split at q
  · rename_i b e
    unfold isR at e
    split at e
    · rename_i es
      obtain ⟨a, xs, rfl, h1, h2⟩ := r
      cases e
      exact ⟨_, _, _, _, true, rfl, .ty _, .base (.tup (cl_at h1)), kit_ty (by decide +kernel), k _ H1 (.bl _) n rfl q⟩
    · cases r
      cases e
      exact ⟨_, _, _, _, true, rfl, .ty _, .base (.int _), kit_ty (by decide +kernel), k _ H1 (.bl _) n rfl q⟩
    · cases r
      cases e
      exact ⟨_, _, _, _, false, rfl, .ty _, .base (.int _), kit_ty (by decide +kernel), k _ H1 (.bl _) n rfl q⟩
    · cases e
  · exact q.elim
end
section
variable {X : Cx} {e f : Expr} {es : List Expr} {t1 t2 te : TE} {w1 w2 : WE} {ta : TA} {wa wl wl2 : WL} {pos p p1 p2 : Pos}
theorem q_isi {T : Str} {T' : String} (hg : Gl X "isinstance") (hm : X.mg "isinstance" = none) (hg2 : Gl X T) (hm2 : X.mg T = none) (h : QE X e te w1) (hb : bootBuiltins T = some (.type T') := by decide +kernel) (hn : T ≠ "__name__" := by decide) (hd : (T == ("__debug__" : Str)) = false := by decide)
    (he : starEach (e :: [.Name T p2]) X.env = (false, eval e X.env) :: starEach [.Name T p2] X.env := by rfl) (hpl : (backTo pos (starEach [.Name T p2] X.env)).any (·.1) = false := by rfl) (hs : starEach (.Name T p2 :: []) X.env = (false, eval (.Name T p2) X.env) :: starEach [] X.env := by rfl) :
    QE X (.Call (.Name "isinstance" p) [e, .Name T p2] [] pos) (tCB (rIsi X.K) (tCons te (tCons (tC (.ty T')) tNil))) (wIsi T' w1) :=
  ⟨pe_callB call_isi hg hm (by decide +kernel) (pa_cons h.pe (pa_cons (pe_bltn hg2 hm2 hb rfl hn hd) pa_nil hs) he) (by decide) (by decide) he hpl, de_isi h.de⟩
/-- f(xs), f a built-in function of one list -/
theorem q_cbl {x : Str} {id : String} {r : List V → Hp → VK → Prop} {w : List D → (D → Prop) → Prop} (hc : CallR X (.builtin id) r) (hr : DCL X.K r w) (hg : Gl X x) (hm : X.mg x = none) (ha : QS X e te wl) (hv : bootBuiltins x = some (.builtin id) := by decide +kernel) (hn : x ≠ "__name__" := by decide) (hdb : (x == ("__debug__" : Str)) = false := by decide)
    (hs : starEach (e :: []) X.env = (false, eval e X.env) :: starEach [] X.env := by rfl) (hpl : (backTo pos (starEach [] X.env)).any (·.1) = false := by rfl) : QE X (.Call (.Name x p) [e] [] pos) (tCB r (tCons te tNil)) (wCL w wl) :=
  ⟨pe_callB hc hg hm hv (pa_cons ha.pe pa_nil hs) hn hdb hs hpl, de_cl ha.ds hr⟩
theorem q_ctl {x : Str} {T : String} {r : List V → Hp → VK → Prop} {w : List D → (D → Prop) → Prop} (hc : CallR X (.type T) r) (hr : DCL X.K r w) (hg : Gl X x) (hm : X.mg x = none) (ha : QS X e te wl) (hv : bootBuiltins x = some (.type T) := by decide +kernel) (hn : x ≠ "__name__" := by decide) (hdb : (x == ("__debug__" : Str)) = false := by decide)
    (hs : starEach (e :: []) X.env = (false, eval e X.env) :: starEach [] X.env := by rfl) (hpl : (backTo pos (starEach [] X.env)).any (·.1) = false := by rfl) : QE X (.Call (.Name x p) [e] [] pos) (tCB r (tCons te tNil)) (wCL w wl) :=
  ⟨pe_callTy hc hg hm hv (pa_cons ha.pe pa_nil hs) hn hdb hs hpl, de_cl ha.ds hr⟩
/-- f(a, ..), a built-in function of values -/
theorem q_cb {x : Str} {id : String} {r : List V → Hp → VK → Prop} {w : List D → (D → Prop) → Prop} (hc : CallR X (.builtin id) r) (hr : DC X.K r w) (hg : Gl X x) (hm : X.mg x = none) (ha : QA X (e :: es) ta wa) (hv : bootBuiltins x = some (.builtin id) := by decide +kernel) (hn : x ≠ "__name__" := by decide) (hdb : (x == ("__debug__" : Str)) = false := by decide)
    (hs : starEach (e :: es) X.env = (false, eval e X.env) :: starEach es X.env := by rfl) (hpl : (backTo pos (starEach es X.env)).any (·.1) = false := by rfl) : QE X (.Call (.Name x p) (e :: es) [] pos) (tCB r ta) (wCB w wa) :=
  ⟨pe_callB hc hg hm hv ha.pa hn hdb hs hpl, de_cb ha.da hr⟩
theorem q_ct {x : Str} {T : String} {r : List V → Hp → VK → Prop} {w : List D → (D → Prop) → Prop} (hc : CallR X (.type T) r) (hr : DC X.K r w) (hg : Gl X x) (hm : X.mg x = none) (ha : QA X (e :: es) ta wa) (hv : bootBuiltins x = some (.type T) := by decide +kernel) (hn : x ≠ "__name__" := by decide) (hdb : (x == ("__debug__" : Str)) = false := by decide)
    (hs : starEach (e :: es) X.env = (false, eval e X.env) :: starEach es X.env := by rfl) (hpl : (backTo pos (starEach es X.env)).any (·.1) = false := by rfl) : QE X (.Call (.Name x p) (e :: es) [] pos) (tCB r ta) (wCB w wa) :=
  ⟨pe_callTy hc hg hm hv ha.pa hn hdb hs hpl, de_cb ha.da hr⟩
theorem q_gcd {x : Str} (hg : Gl X x) (hm : X.mg x = some (.builtin "math.gcd")) (ha : QA X (e :: es) ta wa) (hdb : (x == ("__debug__" : Str)) = false := by decide)
    (hs : starEach (e :: es) X.env = (false, eval e X.env) :: starEach es X.env := by rfl) (hpl : (backTo pos (starEach es X.env)).any (·.1) = false := by rfl) : QE X (.Call (.Name x p) (e :: es) [] pos) (tCB rGcd ta) (wCB wsGcd wa) :=
  ⟨pe_callBfun cr_gcd hg hm ha.pa hdb hs hpl, de_cb ha.da dc_gcd⟩
/-- list(xs) -/
theorem n_list (hg : Gl X "list") (hm : X.mg "list" = none) (ha : QS X e te wl) (hs : starEach (e :: []) X.env = (false, eval e X.env) :: starEach [] X.env := by rfl) (hpl : (backTo pos (starEach [] X.env)).any (·.1) = false := by rfl) :
    QN X (.Call (.Name "list" p) [e] [] pos) (tCB (rListQ X.K) (tCons te tNil)) (wListL wl) :=
  ⟨pe_callTy call_list_of hg hm (by decide +kernel) (pa_cons ha.pe pa_nil hs) (by decide) (by decide) hs hpl, dn_list ha.ds⟩
/-- list(range(n)) -/
def wListRg (w : WE) : WL := fun γ Q => w γ fun d => match d with | .int n => (0 ≤ n ∧ n ≤ 1000) ∧ Q ((List.range n.toNat).map fun i => D.int (i : Nat)) | _ => False
theorem dn_listRg {K : PySem.W.Frag} {te : TE} {w : WE} (h : DE K te w) : DN K (tLstRg (tRg1 te)) (wListRg w) := by
  intro c H Q Qv ek S hw k
  subst ek
  refine h c H _ _ rfl S hw fun v H1 d n r q => ?_
  cases d with
  | int m =>
    cases r
    refine ⟨m, rfl, RgOk.of_le (by omega) (by omega) (by omega) (by omega), fun l hl => ?_⟩
    refine k l _ _ _ (n.free S hl) (n.trans ((S.next n).new hl)) upd_same ?_ q.2
    have e1 : rgV 0 m = ((List.range m.toNat).map fun (i : Nat) => ((i : Nat) : Int)).map V.int := by
      unfold rgV
      rw [List.map_map]
      have e0 : (m - 0).toNat = m.toNat := by omega
      rw [e0]
      refine List.map_congr_left (fun i _ => ?_)
      simp
    have e2 : ((List.range m.toNat).map fun i => D.int (i : Nat)) = ((List.range m.toNat).map fun (i : Nat) => ((i : Nat) : Int)).map D.int := by
      rw [List.map_map]; rfl
    rw [e1, e2]
    exact Rps.ofInts _
  | _ => exact q.elim
end
end DL
/-! DL4 -/
set_option Elab.async false
set_option linter.all false
set_option maxRecDepth 100000
set_option maxHeartbeats 2100000
namespace DL
open PySem PySem.Spec L2 PyProof.Rows
/-! ## targets -/
abbrev WG := D → Gm → (Gm → Prop) → Prop
abbrev WGs := List D → Gm → (Gm → Prop) → Prop
def DG (K : PySem.W.Frag) (g : TG) (wg : WG) (tch : List Nat) : Prop := (∀ d γ Q, wg d γ Q → ∃ γ', Q γ') ∧
  ∀ (c : Cfg) (H : Hp) (v : V) (d : D) (Q : Gm → Prop) (Qs : L2.St → Hp → Prop), c.K = K → Stt c H → Rp K c.J (c.cl H) d v → wg d c.γ Q →
    (∀ σ' γ', Stt (c.wi σ' γ') H → (∀ k : Nat, k ∉ tch → σ'[k]? = c.σ[k]?) → σ'.length = c.σ.length → Q γ' → Qs σ' H) → g v c.σ H Qs
def DGs (K : PySem.W.Frag) (g : TGs) (wg : WGs) (tch : List Nat) (n : Nat) : Prop := (∀ ds γ Q, wg ds γ Q → ds.length = n ∧ ∃ γ', Q γ') ∧
  ∀ (c : Cfg) (H : Hp) (vs : List V) (ds : List D) (Q : Gm → Prop) (Qs : L2.St → Hp → Prop), c.K = K → Stt c H → Rps K c.J (c.cl H) ds vs → wg ds c.γ Q →
    (∀ σ' γ', Stt (c.wi σ' γ') H → (∀ k : Nat, k ∉ tch → σ'[k]? = c.σ[k]?) → σ'.length = c.σ.length → Q γ' → Qs σ' H) → g vs c.σ H Qs
def wgName (i : Nat) : WG := fun d γ Q => Q (γ.set i (.im d))
def wgNil : WGs := fun ds γ Q => match ds with | [] => Q γ | _ => False
def wgCons (g : WG) (r : WGs) : WGs := fun ds γ Q => match ds with | d :: es => g d γ fun γ2 => r es γ2 Q | [] => False
def wgTup (g : WGs) : WG := fun d γ Q => match d with | .tup ds => g ds γ Q | _ => False
theorem Stt.setIm {c : Cfg} {H : Hp} {i : Nat} {d : D} {v : V} (S : Stt c H) (r : Rp c.K c.J (c.cl H) d v) : Stt (c.wi (c.σ.set i (some v)) (c.γ.set i (.im d))) H where
  len := by show (c.σ.set i (some v)).length = (c.γ.set i (.im d)).length; rw [List.length_set, List.length_set]; exact S.len
  im := fun j e h => by
    have h' : (c.γ.set i (Slot.im d))[j]? = some (Slot.im e) := h
    show ∃ u, (c.σ.set i (some v))[j]? = some (some u) ∧ Rp c.K c.J (c.cl H) e u
    by_cases hj : i = j
    · subst hj
      by_cases hl : i < c.γ.length
      · rw [List.getElem?_set_self hl] at h'
        cases h'
        exact ⟨v, List.getElem?_set_self (by rw [S.len]; exact hl), r⟩
      · rw [List.getElem?_eq_none (by rw [List.length_set]; omega)] at h'
        cases h'
    · rw [List.getElem?_set_ne hj] at h' ⊢
      exact S.im j e h'
  mu := fun j ds h => by
    have h' : (c.γ.set i (Slot.im d))[j]? = some (Slot.mu ds) := h
    show ∃ a xs, c.f j = some a ∧ (c.σ.set i (some v))[j]? = some (some (.ref a)) ∧ H a = some (.lst xs) ∧ Rps c.K c.J (c.cl H) ds xs
    by_cases hj : i = j
    · subst hj
      by_cases hl : i < c.γ.length
      · rw [List.getElem?_set_self hl] at h'
        cases h'
      · rw [List.getElem?_eq_none (by rw [List.length_set]; omega)] at h'
        cases h'
    · rw [List.getElem?_set_ne hj] at h' ⊢
      exact S.mu j ds h'
  own := S.own
  inj := S.inj
  dom := S.dom
  dkM := S.dkM
  deck := S.deck
  fr := S.fr
section
variable {K : PySem.W.Frag} {g : TG} {gs : TGs} {wg : WG} {wgs : WGs} {t1 t2 : List Nat} {n : Nat}
theorem dg_name {i : Nat} : DG K (gName i) (wgName i) [i] := by
  refine ⟨fun d γ Q h => ⟨_, h⟩, ?_⟩
  intro c H v d Q Qs ek S r hw k
  subst ek
  exact k _ _ (S.setIm r) (fun j hj => List.getElem?_set_ne (fun e => hj (by simp [e]))) (List.length_set ..) hw
theorem dgs_nil : DGs K gNil wgNil [] 0 := by
  refine ⟨fun ds γ Q h => ?_, ?_⟩
  · cases ds with
    | nil => exact ⟨rfl, _, h⟩
    | cons _ _ => exact h.elim
  · intro c H vs ds Q Qs ek S r hw k
    cases ds with
    | nil => exact ⟨r, k _ _ S (fun _ _ => rfl) rfl hw⟩
    | cons _ _ => exact hw.elim
theorem dgs_cons (h : DG K g wg t1) (hs : DGs K gs wgs t2 n) : DGs K (gCons g gs) (wgCons wg wgs) (t1 ++ t2) (n + 1) := by
  refine ⟨fun ds γ Q q => ?_, ?_⟩
  · cases ds with
    | nil => exact q.elim
    | cons d r =>
      obtain ⟨γ2, q2⟩ := h.1 d γ _ q
      obtain ⟨e, γ3, q3⟩ := hs.1 r γ2 _ q2
      exact ⟨by simp [e], γ3, q3⟩
  · intro c H vs ds Q Qs ek S r hw k
    cases ds with
    | nil => exact hw.elim
    | cons d es =>
      subst ek
      obtain ⟨v, us, rfl, r1, r2⟩ := r
      refine ⟨v, us, rfl, ?_⟩
      refine h.2 c H v d _ _ rfl S r1 hw fun σ' γ' S1 o1 l1 q1 => ?_
      refine hs.2 (c.wi σ' γ') H us es _ _ rfl S1 r2 q1 fun σ2 γ2 S2 o2 l2 q2 => ?_
      exact k σ2 γ2 S2 (fun j hj => (o2 j fun z => hj (List.mem_append_right _ z)).trans (o1 j fun z => hj (List.mem_append_left _ z))) (l2.trans l1) q2
theorem dg_tup (h : DGs K gs wgs t1 n) : DG K (gTup K n gs) (wgTup wgs) t1 := by
  refine ⟨fun d γ Q q => ?_, ?_⟩
  · cases d with
    | tup ds => exact (h.1 ds γ Q q).2
    | _ => exact q.elim
  · intro c H v d Q Qs ek S r hw k
    cases d with
    | tup ds =>
      obtain ⟨a, xs, rfl, h1, h2⟩ := r
      exact ⟨a, xs, rfl, SqT.of (cl_at h1), h2.len.trans (h.1 ds _ _ hw).1, h.2 c H xs ds Q Qs ek S h2 hw k⟩
    | _ => exact hw.elim
end
structure QG (X : Cx) (tg : Expr) (g : TG) (w : WG) (tch : List Nat) : Prop where
  pg : PG X tg g
  dg : DG X.K g w tch
structure QGs (X : Cx) (ts : List Expr) (g : TGs) (w : WGs) (tch : List Nat) (n : Nat) : Prop where
  pgs : PGs X ts g
  dgs : DGs X.K g w tch n
section
variable {X : Cx} {pos : Pos} {e : Expr} {es : List Expr} {g : TG} {gs : TGs} {wg : WG} {wgs : WGs} {t1 t2 : List Nat} {n : Nat}
theorem g_name {i : Nat} {x : Str} (hN : X.N.Nodup) (hi : X.N[i]? = some x) (hx : Loc X.env.scope x) (hf : X.fn x = true ∨ X.env.scope.names.lookup x = some .local := by first | exact .inl rfl | exact .inr rfl | assumption) : QG X (.Name x pos) (gName i) (wgName i) [i] := ⟨pg_name hN hi hx hf, dg_name⟩
theorem gs_nil : QGs X [] gNil wgNil [] 0 := ⟨pgs_nil, dgs_nil⟩
theorem gs_cons (h : QG X e g wg t1) (hs : QGs X es gs wgs t2 n) (ha : (assignEach (e :: es) X.env).map (·.2) = assign e X.env :: (assignEach es X.env).map (·.2) := by rfl) : QGs X (e :: es) (gCons g gs) (wgCons wg wgs) (t1 ++ t2) (n + 1) := ⟨pgs_cons h.pg hs.pgs ha, dgs_cons h.dg hs.dgs⟩
theorem g_tup {k : Nat} (hc : X.calm = true) (h : QGs X es gs wgs t1 n) (hn : (assignEach es X.env).length = n := by rfl) (hst : (assignEach es X.env).findIdx? (·.1) = none := by rfl) : QG X (.Tuple es k pos) (gTup X.K n gs) (wgTup wgs) t1 := ⟨pg_tup hc h.pgs hn hst, dg_tup h.dgs⟩
end

/-! ## what is walked -/
structure ItOk (K : PySem.W.Frag) (Jd : JJ) (Hc : Hp) (G : Hp → Prop) (J : It) (items : List D) : Prop where
  go : ∀ i H, i < items.length → G H → J.go i H
  stop : ∀ H, G H → J.stop items.length H
  yld : ∀ i H x H', i < items.length → G H → J.yld i H x H' → ∃ d, items[i]? = some d ∧ Same H H' ∧ ∀ M : Addr → Prop, Same Hc (hid M H) → (∀ b, M b → H b ≠ none) → Rp K Jd (hid M H') d x
/-- over a thing that stands still while own lists change -/
def DI (K : PySem.W.Frag) (wi : TI) (w : WL) : Prop := ∀ (c : Cfg) (H : Hp) (Q : List D → Prop) (R : It → Hp → Prop), c.K = K → Stt c H → w c.γ Q →
  (∀ J H' items, Nxt c.J H H' → Q items → ItOk K c.J (c.cl H') (Same (c.cl H')) J items → R J H') → wi c.σ H R
/-- over a thing that stands still while nothing but the deck changes -/
def DIc (K : PySem.W.Frag) (wi : TI) (w : WL) : Prop := ∀ (c : Cfg) (H : Hp) (Q : List D → Prop) (R : It → Hp → Prop), c.K = K → Stt c H → w c.γ Q →
  (∀ J H' items, Nxt c.J H H' → Q items → ItOk K c.J (c.cl H') (Fram c.J H') J items → R J H') → wi c.σ H R
theorem Stt.framSame {c : Cfg} {H H2 : Hp} (S : Stt c H) (f : Fram c.J H H2) : Same (c.cl H) H2 := fun b o h => by
  obtain ⟨h1, h2⟩ := hid_some.mp h
  exact f b o (fun z => h1 (.inl (S.dkM b z))) h2
theorem DI.c {K : PySem.W.Frag} {wi : TI} {w : WL} (h : DI K wi w) : DIc K wi w := by
  intro c H Q R ek S hw k
  refine h c H Q R ek S hw fun J H' items n q I => k J H' items n q ?_
  have S1 := S.next n
  exact ⟨fun i H2 hi g => I.go i H2 hi (S1.framSame g), fun H2 g => I.stop H2 (S1.framSame g), fun i H2 x H3 hi g y => I.yld i H2 x H3 hi (S1.framSame g) y⟩
def wAsT (w : WE) : WL := fun γ Q => w γ fun d => match d with | .tup ds => Q ds | _ => False
def wZip (wa : WL) : WL := fun γ Q => wa γ fun as => match as with
  | [.tup ds, .tup es] => Q (List.zipWith (fun a b => D.tup [a, b]) ds es)
  | [.lst ds, .lst es] => Q (List.zipWith (fun a b => D.tup [a, b]) ds es)
  | _ => False
def wRange (wa : WL) : WL := fun γ Q => wa γ fun as => match as with | [.int n] => n < 2 ^ 62 ∧ -(2 ^ 62) ≤ n ∧ Q ((List.range n.toNat).map fun i => D.int (i : Nat)) | _ => False
def wRange2 (wa : WL) : WL := fun γ Q => wa γ fun as => match as with | [.int a, .int b] => (-(2 ^ 62) ≤ a ∧ a < 2 ^ 62 ∧ -(2 ^ 62) ≤ b ∧ b < 2 ^ 62) ∧ Q ((List.range (b - a).toNat).map fun i => D.int (a + (i : Nat))) | _ => False
def wEnum (wl : WL) : WL := fun γ Q => wl γ fun ds => Q (List.zipWith (fun i d => D.tup [D.int (i : Nat), d]) (List.range ds.length) ds)
theorem it_list {K : PySem.W.Frag} {Jd : JJ} {Hc : Hp} {G : Hp → Prop} {p : Addr} {xs : List V} {ds : List D} (hG : ∀ H, G H → H p = some (.lst xs)) (r : Rps K Jd Hc ds xs) : ItOk K Jd Hc G (Itl K p) ds where
  go := fun i H hi g => by
    have hi' : i < xs.length := by rw [r.len]; exact hi
    exact ⟨xs, xs[i], SqL.of (hG H g), by simp [hi']⟩
  stop := fun H g => ⟨xs, SqL.of (hG H g), by rw [r.len]; exact Nat.le_refl _⟩
  yld := fun i H x H' hi g y => by
    obtain ⟨e, y⟩ := y
    subst e
    obtain ⟨d, h1, h2⟩ := r.got (y xs (SqL.of (hG _ g)))
    exact ⟨d, h1, Same.refl _, fun M s _ => h2.mono s⟩
theorem it_tup {K : PySem.W.Frag} {Jd : JJ} {Hc : Hp} {G : Hp → Prop} {p : Addr} {xs : List V} {ds : List D} (hG : ∀ H, G H → H p = some (.tup xs)) (r : Rps K Jd Hc ds xs) : ItOk K Jd Hc G (Itt K p) ds where
  go := fun i H hi g => by
    have hi' : i < xs.length := by rw [r.len]; exact hi
    exact ⟨xs, xs[i], SqT.of (hG H g), by simp [hi']⟩
  stop := fun H g => ⟨xs, SqT.of (hG H g), by rw [r.len]; exact Nat.le_refl _⟩
  yld := fun i H x H' hi g y => by
    obtain ⟨e, y⟩ := y
    subst e
    obtain ⟨d, h1, h2⟩ := r.got (y xs (SqT.of (hG _ g)))
    exact ⟨d, h1, Same.refl _, fun M s _ => h2.mono s⟩
theorem pair_rp {K : PySem.W.Frag} {Jd : JJ} {M : Addr → Prop} {H : Hp} {T : Addr} {a b : D} {x y : V} (hT : H T = none) (dm : ∀ b, M b → H b ≠ none) (h1 : Rp K Jd (hid M H) a x) (h2 : Rp K Jd (hid M H) b y) :
    Rp K Jd (hid M (upd H T (.tup [x, y]))) (.tup [a, b]) (.ref T) := by
  have s : Same (hid M H) (hid M (upd H T (.tup [x, y]))) := hid_mono (fun _ z => z) (Same.upd hT)
  exact ⟨T, [x, y], rfl, hid_some.mpr ⟨fun z => dm T z hT, upd_same⟩, x, [y], rfl, h1.mono s, y, [], rfl, h2.mono s, rfl⟩
theorem zipD_get {ds es : List D} {f : D → D → D} {i : Nat} {d e : D} (h1 : ds[i]? = some d) (h2 : es[i]? = some e) : (List.zipWith f ds es)[i]? = some (f d e) := by
  rw [List.getElem?_zipWith, h1, h2]
theorem it_zipT {K : PySem.W.Frag} {Jd : JJ} {Hc : Hp} {G : Hp → Prop} {p q : Addr} {xs ys : List V} {ds es : List D} (hG : ∀ H, G H → H p = some (.tup xs) ∧ H q = some (.tup ys)) (r1 : Rps K Jd Hc ds xs) (r2 : Rps K Jd Hc es ys) :
    ItOk K Jd Hc G (RZ.ItzT K p q) (List.zipWith (fun a b => D.tup [a, b]) ds es) where
  go := fun i H hi g => by
    rw [List.length_zipWith] at hi
    have h1 : i < xs.length := by rw [r1.len]; omega
    have h2 : i < ys.length := by rw [r2.len]; omega
    exact ⟨xs, ys, xs[i], ys[i], SqT.of (hG H g).1, SqT.of (hG H g).2, by simp [h1], by simp [h2]⟩
  stop := fun H g => ⟨xs, ys, SqT.of (hG H g).1, SqT.of (hG H g).2, by rw [List.length_zipWith, r1.len, r2.len]; omega⟩
  yld := fun i H v H' hi g y => by
    obtain ⟨T, x, z, rfl, hT, rfl, h1, h2⟩ := y
    obtain ⟨d, d1, d2⟩ := r1.got (h1 xs (SqT.of (hG _ g).1))
    obtain ⟨e, e1, e2⟩ := r2.got (h2 ys (SqT.of (hG _ g).2))
    exact ⟨_, zipD_get d1 e1, Same.upd hT, fun M s dm => pair_rp hT dm (d2.mono s) (e2.mono s)⟩
theorem it_zipL {K : PySem.W.Frag} {Jd : JJ} {Hc : Hp} {G : Hp → Prop} {p q : Addr} {xs ys : List V} {ds es : List D} (hG : ∀ H, G H → H p = some (.lst xs) ∧ H q = some (.lst ys)) (r1 : Rps K Jd Hc ds xs) (r2 : Rps K Jd Hc es ys) :
    ItOk K Jd Hc G (Itz K p q) (List.zipWith (fun a b => D.tup [a, b]) ds es) where
  go := fun i H hi g => by
    rw [List.length_zipWith] at hi
    have h1 : i < xs.length := by rw [r1.len]; omega
    have h2 : i < ys.length := by rw [r2.len]; omega
    exact ⟨xs, ys, xs[i], ys[i], SqL.of (hG H g).1, SqL.of (hG H g).2, by simp [h1], by simp [h2]⟩
  stop := fun H g => ⟨xs, ys, SqL.of (hG H g).1, SqL.of (hG H g).2, by rw [List.length_zipWith, r1.len, r2.len]; omega⟩
  yld := fun i H v H' hi g y => by
    obtain ⟨T, x, z, rfl, hT, rfl, h1, h2⟩ := y
    obtain ⟨d, d1, d2⟩ := r1.got (h1 xs (SqL.of (hG _ g).1))
    obtain ⟨e, e1, e2⟩ := r2.got (h2 ys (SqL.of (hG _ g).2))
    exact ⟨_, zipD_get d1 e1, Same.upd hT, fun M s dm => pair_rp hT dm (d2.mono s) (e2.mono s)⟩
theorem it_enum {K : PySem.W.Frag} {Jd : JJ} {Hc : Hp} {G : Hp → Prop} {p : Addr} {xs : List V} {ds : List D} (hG : ∀ H, G H → H p = some (.lst xs)) (r : Rps K Jd Hc ds xs) :
    ItOk K Jd Hc G (Ite K p) (List.zipWith (fun i d => D.tup [D.int (i : Nat), d]) (List.range ds.length) ds) where
  go := fun i H hi g => by
    rw [List.length_zipWith, List.length_range] at hi
    have h1 : i < xs.length := by rw [r.len]; omega
    exact (walk_enum (K := K) (a := p) (xs := xs)).goes i H h1 (SqL.of (hG H g))
  stop := fun H g => by
    have e : (List.zipWith (fun i d => D.tup [D.int ((i : Nat) : Int), d]) (List.range ds.length) ds).length = xs.length := by rw [List.length_zipWith, List.length_range, r.len]; omega
    rw [e]
    exact (walk_enum (K := K) (a := p) (xs := xs)).stops H (SqL.of (hG H g))
  yld := fun i H v H' hi g y => by
    rw [List.length_zipWith, List.length_range] at hi
    have h1 : i < xs.length := by rw [r.len]; omega
    obtain ⟨T, x, z, rfl, hT, rfl, h2, h3⟩ := (walk_enum (K := K) (a := p) (xs := xs)).yields i H v H' h1 (SqL.of (hG H g)) y
    obtain ⟨e, e1, e2⟩ := r.got h3
    have h2' : (V.int ((i : Nat) : Int)) = x := Option.some.inj h2
    subst h2'
    refine ⟨D.tup [D.int (i : Nat), e], ?_, Same.upd hT, fun M s dm => pair_rp hT dm rfl (e2.mono s)⟩
    rw [List.getElem?_zipWith, e1, List.getElem?_range (by omega)]
section
variable {K : PySem.W.Frag} {te : TE} {w : WE} {wl wa : WL} {ta : TA}
theorem di_tup (h : DE K te w) : DI K (iTup K te) (wAsT w) := by
  intro c H Q R ek S hw k
  subst ek
  refine h c H _ _ rfl S hw fun v H1 d n r q => ?_
  cases d with
  | tup ds =>
    obtain ⟨a, xs, rfl, h1, h2⟩ := r
    exact ⟨a, rfl, ⟨xs, SqT.of (cl_at h1)⟩, k _ H1 ds n q (it_tup (fun H2 g => g _ _ h1) h2)⟩
  | _ => exact q.elim
theorem di_list (h : DE K te w) : DI K (iList K te) (wAsL w) := by
  intro c H Q R ek S hw k
  subst ek
  refine h c H _ _ rfl S hw fun v H1 d n r q => ?_
  cases d with
  | lst ds =>
    obtain ⟨a, xs, rfl, h1, h2⟩ := r
    exact ⟨a, rfl, ⟨xs, SqL.of (cl_at h1)⟩, k _ H1 ds n q (it_list (fun H2 g => g _ _ h1) h2)⟩
  | _ => exact q.elim
theorem dic_list (h : DS K te wl) : DIc K (iList K te) wl := by
  intro c H Q R ek S hw k
  subst ek
  refine h c H _ _ rfl S hw fun p xs H1 ds n nd hp r q => ?_
  exact ⟨p, rfl, ⟨xs, SqL.of hp⟩, k _ H1 ds n q (it_list (fun H2 g => g p _ nd hp) r)⟩
theorem dic_enum (h : DS K te wl) : DIc K (iEnum K (tCons te tNil)) (wEnum wl) := by
  intro c H Q R ek S hw k
  subst ek
  refine h c H _ _ rfl S hw fun p xs H1 ds n nd hp r q => ?_
  exact ⟨p, xs, rfl, SqL.of hp, k _ H1 _ n q (it_enum (fun H2 g => g p _ nd hp) r)⟩
theorem di_zip (h : DA K ta wa) : DI K (RZ.iZipA K ta) (wZip wa) := by
  intro c H Q R ek S hw k
  subst ek
  refine h c H _ _ rfl S hw fun vs H1 as n r q => ?_
  split at q
  · rename_i ds es
    obtain ⟨x, y, rfl, ⟨a, xs, rfl, h1, h2⟩, ⟨b, ys, rfl, h3, h4⟩⟩ := two_of r
    exact ⟨a, b, xs, ys, rfl, .inr ⟨SqT.of (cl_at h1), SqT.of (cl_at h3), k _ H1 _ n q (it_zipT (fun H2 g => ⟨g _ _ h1, g _ _ h3⟩) h2 h4)⟩⟩
  · rename_i ds es
    obtain ⟨x, y, rfl, ⟨a, xs, rfl, h1, h2⟩, ⟨b, ys, rfl, h3, h4⟩⟩ := two_of r
    exact ⟨a, b, xs, ys, rfl, .inl ⟨SqL.of (cl_at h1), SqL.of (cl_at h3), k _ H1 _ n q (it_zipL (fun H2 g => ⟨g _ _ h1, g _ _ h3⟩) h2 h4)⟩⟩
  · exact q.elim
theorem it_range {Jd : JJ} {Hc : Hp} {G : Hp → Prop} {a : Int} {n : Nat} : ItOk K Jd Hc G (Itr a n) ((List.range n).map fun i => D.int (a + (i : Nat))) where
  go := fun i H hi g => by show i < n; simpa using hi
  stop := fun H g => by show n ≤ _; simp
  yld := fun i H x H' hi g y => by
    obtain ⟨e, y⟩ := y
    subst e; subst y
    have hi' : i < n := by simpa using hi
    exact ⟨D.int (a + (i : Nat)), by simp [List.getElem?_range hi'], Same.refl _, fun M s _ => rfl⟩
theorem di_range (h : DA K ta wa) : DI K (iRng1 ta) (wRange wa) := by
  intro c H Q R ek S hw k
  subst ek
  refine h c H _ _ rfl S hw fun vs H1 as n r q => ?_
  split at q
  · rename_i m
    obtain ⟨x, rfl, h1⟩ := one_of r
    cases h1
    refine ⟨m, rfl, q.2.1, q.1, k _ H1 _ n q.2.2 ?_⟩
    have e : ((List.range m.toNat).map fun i => D.int ((i : Nat) : Int)) = (List.range m.toNat).map fun i => D.int (0 + ((i : Nat) : Int)) := List.map_congr_left fun i _ => by simp
    rw [e]
    exact it_range
  · exact q.elim
theorem di_range2 (h : DA K ta wa) : DI K (iRng2 ta) (wRange2 wa) := by
  intro c H Q R ek S hw k
  subst ek
  refine h c H _ _ rfl S hw fun vs H1 as n r q => ?_
  split at q
  · rename_i a b
    obtain ⟨x, y, rfl, h1, h2⟩ := two_of r
    cases h1; cases h2
    exact ⟨a, b, rfl, q.1, k _ H1 _ n q.2 it_range⟩
  · exact q.elim
end
structure QI (X : Cx) (tg e : Expr) (wi : TI) (w : WL) : Prop where
  pi : PI X tg e wi
  di : DI X.K wi w
structure QIc (X : Cx) (tg e : Expr) (wi : TI) (w : WL) : Prop where
  pi : PI X tg e wi
  di : DIc X.K wi w
theorem QI.c {X : Cx} {tg e : Expr} {wi : TI} {w : WL} (h : QI X tg e wi w) : QIc X tg e wi w := ⟨h.pi, h.di.c⟩
section
variable {X : Cx} {tg e e2 : Expr} {es elts : List Expr} {te : TE} {w : WE} {ta : TA} {wa wl : WL} {p pos tpos : Pos} {kk : Nat}
theorem i_tup (h : QE X e te w) : QI X tg e (iTup X.K te) (wAsT w) := ⟨pi_tup h.pe, di_tup h.de⟩
theorem i_list (h : QE X e te w) : QI X tg e (iList X.K te) (wAsL w) := ⟨pi_list h.pe, di_list h.de⟩
theorem ic_list (h : QS X e te wl) : QIc X tg e (iList X.K te) wl := ⟨pi_list h.pe, dic_list h.ds⟩
theorem i_range (hg : Gl X "range") (hm : X.mg "range" = none) (ha : QA X [e] ta wa) (hs : starEach [e] X.env = [(false, eval e X.env)] := by rfl) : QI X tg (.Call (.Name "range" p) [e] [] pos) (iRng1 ta) (wRange wa) := ⟨pi_range1 hg hm ha.pa hs, di_range ha.da⟩
theorem i_range2 (hg : Gl X "range") (hm : X.mg "range" = none) (ha : QA X [e, e2] ta wa) (hs : starEach [e, e2] X.env = [(false, eval e X.env), (false, eval e2 X.env)] := by rfl) (hs2 : starEach [e2] X.env = [(false, eval e2 X.env)] := by rfl) :
    QI X tg (.Call (.Name "range" p) [e, e2] [] pos) (iRng2 ta) (wRange2 wa) := ⟨pi_range2 hg hm ha.pa hs hs2, di_range2 ha.da⟩
theorem i_zip (hg : Gl X "zip") (hm : X.mg "zip" = none) (ha : QA X [e, e2] ta wa) (hs : starEach [e, e2] X.env = (false, eval e X.env) :: starEach [e2] X.env := by rfl) (hpl : (backTo pos (starEach [e2] X.env)).any (·.1) = false := by rfl) :
    QI X (.Tuple elts kk tpos) (.Call (.Name "zip" p) [e, e2] [] pos) (RZ.iZipA X.K ta) (wZip wa) := ⟨RZ.pi_zipA hg hm ha.pa hs hpl, di_zip ha.da⟩
theorem ic_enum (hg : Gl X "enumerate") (hm : X.mg "enumerate" = none) (ha : QS X e te wl) (hs : starEach [e] X.env = [(false, eval e X.env)] := by rfl) (hs1 : starEach (e :: []) X.env = (false, eval e X.env) :: starEach [] X.env := by rfl) :
    QIc X (.Tuple elts kk tpos) (.Call (.Name "enumerate" p) [e] [] pos) (iEnum X.K (tCons te tNil)) (wEnum wl) := ⟨pi_enum hg hm (pa_cons ha.pe pa_nil hs1) hs, dic_enum ha.ds⟩
end
end DL
/-! DL5 -/
set_option Elab.async false
set_option linter.all false
set_option maxRecDepth 100000
set_option maxHeartbeats 2100000
namespace DL
open PySem PySem.Spec L2 PyProof.Rows
/-! ## comprehensions -/
def wipeG (γ : Gm) : List Nat → Gm
  | [] => γ
  | v :: vs => (wipeG γ vs).set v .un
def wLcGo (g : WG) (t : WT) (e : WE) (γ0 : Gm) : List D → List D → (List D → Prop) → Prop
  | acc, [], Q => Q acc
  | acc, x :: xs, Q => g x γ0 fun γ2 => t γ2 fun b => if b = true then e γ2 fun y => wLcGo g t e γ0 (acc ++ [y]) xs Q else wLcGo g t e γ0 acc xs Q
def wLc (wl : WL) (g : WG) (t : WT) (e : WE) (vs : List Nat) : WL := fun γ Q => wl γ fun items => few items ∧ wLcGo g t e (wipeG γ vs) [] items Q
def wYes : WT := fun _ Q => Q true
theorem wipe_get (σ : L2.St) : ∀ (vs : List Nat) (k : Nat), (wipe σ vs)[k]? = if k ∈ vs then (σ[k]?).map (fun _ => none) else σ[k]?
  | [], k => by simp [wipe]
  | v :: vs, k => by
    unfold wipe
    by_cases h : v = k
    · subst h
      by_cases hl : v < (wipe σ vs).length
      · rw [List.getElem?_set_self hl]
        rw [wipe_length] at hl
        simp [hl]
      · rw [List.getElem?_eq_none (by rw [List.length_set]; omega)]
        rw [wipe_length] at hl
        simp [List.getElem?_eq_none (Nat.le_of_not_lt hl)]
    · rw [List.getElem?_set_ne h, wipe_get σ vs k]
      have : (k ∈ v :: vs) ↔ k ∈ vs := by simp [Ne.symm h]
      simp [this]
theorem wipe_eq {σ σ2 : L2.St} {vs : List Nat} (hl : σ2.length = σ.length) (h : ∀ k, k ∉ vs → σ2[k]? = (wipe σ vs)[k]?) : wipe σ2 vs = wipe σ vs := by
  refine List.ext_getElem? (fun k => ?_)
  rw [wipe_get σ2 vs k, wipe_get σ vs k]
  by_cases hk : k ∈ vs
  · rw [if_pos hk, if_pos hk]
    by_cases hlt : k < σ.length
    · rw [List.getElem?_eq_getElem hlt, List.getElem?_eq_getElem (by omega)]; rfl
    · rw [List.getElem?_eq_none (by omega), List.getElem?_eq_none (by omega)]
  · rw [if_neg hk, if_neg hk, h k hk, wipe_get σ vs k, if_neg hk]
theorem Stt.wipe {c : Cfg} {H : Hp} (S : Stt c H) (vs : List Nat) : Stt (c.wi (L2.wipe c.σ vs) (wipeG c.γ vs)) H := by
  have gl : ∀ vs : List Nat, (wipeG c.γ vs).length = c.γ.length := fun vs => by
    induction vs with
    | nil => rfl
    | cons v vs ih => unfold wipeG; rw [List.length_set, ih]
  have gg : ∀ (vs : List Nat) (k : Nat) (s : Slot), (wipeG c.γ vs)[k]? = some s → s = .un ∨ (c.γ[k]? = some s ∧ k ∉ vs) := fun vs => by
    induction vs with
    | nil => exact fun k s h => .inr ⟨h, by simp⟩
    | cons v vs ih =>
      intro k s h
      unfold wipeG at h
      by_cases hk : v = k
      · subst hk
        by_cases hl : v < (wipeG c.γ vs).length
        · rw [List.getElem?_set_self hl] at h; cases h; exact .inl rfl
        · rw [List.getElem?_eq_none (by rw [List.length_set]; omega)] at h; cases h
      · rw [List.getElem?_set_ne hk] at h
        rcases ih k s h with z | ⟨z1, z2⟩
        · exact .inl z
        · exact .inr ⟨z1, by simp [Ne.symm hk, z2]⟩
  refine ⟨?_, fun i d h => ?_, fun i ds h => ?_, S.own, S.inj, S.dom, S.dkM, S.deck, S.fr⟩
  · show (L2.wipe c.σ vs).length = (wipeG c.γ vs).length
    rw [wipe_length, gl, S.len]
  · rcases gg vs i _ h with z | ⟨z1, z2⟩
    · cases z
    · obtain ⟨v, h1, h2⟩ := S.im i d z1
      refine ⟨v, ?_, h2⟩
      show (L2.wipe c.σ vs)[i]? = _
      rw [wipe_get, if_neg z2]; exact h1
  · rcases gg vs i _ h with z | ⟨z1, z2⟩
    · cases z
    · obtain ⟨a, xs, h0, h1, h2⟩ := S.mu i ds z1
      refine ⟨a, xs, h0, ?_, h2⟩
      show (L2.wipe c.σ vs)[i]? = _
      rw [wipe_get, if_neg z2]; exact h1
abbrev Cfg.hide (c : Cfg) (p : Addr) : Cfg := { c with M := fun b => c.M b ∨ b = p }
theorem Stt.hideP {c : Cfg} {H1 H2 : Hp} {p : Addr} (S : Stt c H1) (n : Nxt c.J H1 H2) (hp : H1 p = none) (hp2 : H2 p ≠ none) : Stt (c.hide p) H2 := by
  have mt : ∀ b, (c.hide p).MT b → c.MT b ∨ b = p := fun b h => by
    rcases h with (h | h) | h
    · exact .inl (.inl h)
    · exact .inr h
    · exact .inl (.inr h)
  have sm : Same (c.cl H1) ((c.hide p).cl H2) := fun b o q => by
    obtain ⟨h1, h2⟩ := hid_some.mp q
    refine hid_some.mpr ⟨fun z => ?_, n.fr b o (fun z => h1 (.inl (S.dkM b z))) h2⟩
    rcases mt b z with z | z
    · exact h1 z
    · subst z; rw [hp] at h2; cases h2
  refine ⟨S.len, fun i d h => ?_, fun i ds h => ?_, fun i a h => ?_, S.inj, fun b h => ?_, fun b h => .inl (S.dkM b h), n.dk, S.fr.trans n.fr⟩
  · obtain ⟨v, h1, h2⟩ := S.im i d h
    exact ⟨v, h1, h2.mono sm⟩
  · obtain ⟨a, xs, h0, h1, h2, h3⟩ := S.mu i ds h
    exact ⟨a, xs, h0, h1, n.fr a _ (fun z => (S.own i a h0).1 (S.dkM a z)) h2, h3.mono sm⟩
  · obtain ⟨h1, h2, h3⟩ := S.own i a h
    refine ⟨fun z => ?_, h2, Fram.dom n h3⟩
    rcases z with z | z
    · exact h1 z
    · subst z; exact h3 hp
  · rcases h with z | z
    · exact Fram.dom n (S.dom b z)
    · subst z; exact hp2
theorem dn_lc {K : PySem.W.Frag} {wi : TI} {wl : WL} {g : TG} {wg : WG} {tch vs : List Nat} {tt : TT} {wt : WT} {te : TE} {we : WE} (hi : DIc K wi wl) (hg : DG K g wg tch) (htch : ∀ k ∈ tch, k ∈ vs) (ht : DT K tt wt) (he : DE K te we) :
    DN K (tLc wi g tt te vs) (wLc wl wg wt we vs) := by
  intro c H Q Qv ek S hw k
  subst ek
  refine hi c H _ _ rfl S hw fun J H1 items n q I => ?_
  obtain ⟨qs, q⟩ := q
  have hlen : items.length ≤ 1000 := Nat.le_of_ble_eq_true qs
  have S1 := S.next n
  intro Dl hD
  let W : Nat → Nat → Hp → Prop := fun i m H2 => m = items.length - i ∧ i ≤ items.length ∧ ∃ acc xs, H2 Dl = some (.lst xs) ∧ Rps c.K c.J (hid (fun b => c.MT b ∨ b = Dl) H2) acc xs ∧ acc.length ≤ i ∧ Nxt c.J H1 H2 ∧ wLcGo wg wt we (wipeG c.γ vs) acc (items.drop i) Q
  refine ⟨W, ⟨_, rfl, Nat.zero_le _, [], [], upd_same, rfl, Nat.le_refl _, S1.new hD, q⟩, ?_⟩
  rintro i m H2 ⟨rfl, hle, acc, xs, hx, rx, hacc, n12, q2⟩
  by_cases hlt : i < items.length
  · refine .inr ⟨I.go i H2 hlt n12.fr, fun H3 => W (i + 1) (items.length - (i + 1)) H3, fun H3 w3 => ⟨_, by omega, w3⟩, fun x H3 y => ?_⟩
    obtain ⟨d, hd, sm, rp⟩ := I.yld i H2 x H3 hlt n12.fr y
    have edrop : items.drop i = d :: items.drop (i + 1) := by
      have hd' := (List.getElem?_eq_some_iff.mp hd).2
      rw [List.drop_eq_getElem_cons hlt, hd']
    rw [edrop] at q2
    have n23 : Nxt c.J H2 H3 := Nxt.same n12.dk sm
    have n13 := n12.trans n23
    have hx3 : H3 Dl = some (.lst xs) := sm _ _ hx
    have Sb : Stt (c.hide Dl) H3 := S1.hideP n13 hD (by rw [hx3]; simp)
    have Sb2 : Stt (c.hide Dl) H2 := S1.hideP n12 hD (by rw [hx]; simp)
    have mt : ∀ b, (c.hide Dl).MT b ↔ (c.MT b ∨ b = Dl) := fun b => by
      constructor
      · rintro ((h | h) | h)
        · exact .inl (.inl h)
        · exact .inr h
        · exact .inl (.inr h)
      · rintro ((h | h) | h)
        · exact .inl (.inl h)
        · exact .inr h
        · exact .inl (.inr h)
    have rx' : Rps c.K c.J ((c.hide Dl).cl H2) acc xs := rx.mono (hid_mono (fun b z => (mt b).mp z) (Same.refl _))
    have rd : Rp c.K c.J ((c.hide Dl).cl H3) d x := by
      refine rp (c.hide Dl).MT (fun b o e => ?_) Sb2.domT
      obtain ⟨e1, e2⟩ := hid_some.mp e
      refine hid_some.mpr ⟨fun z => ?_, n12.fr b o (fun z => e1 (.inl (S1.dkM b z))) e2⟩
      rcases (mt b).mp z with z | z
      · exact e1 z
      · subst z; rw [hD] at e2; cases e2
    refine hg.2 ((c.hide Dl).wi (L2.wipe c.σ vs) (wipeG c.γ vs)) H3 x d _ _ rfl (Sb.wipe vs) rd q2 fun σ2 γ2 S3 o3 l3 q3 => ?_
    have S3' : Stt ((c.hide Dl).wi σ2 γ2) H3 := S3
    refine ⟨wipe_eq (l3.trans (wipe_length _ _)) fun k hk => o3 k fun z => hk (htch k z), ?_⟩
    refine ht ((c.hide Dl).wi σ2 γ2) H3 _ _ rfl S3' q3 fun b H4 n4 q4 => ?_
    have S4 := S3'.next n4
    have hx4 : H4 Dl = some (.lst xs) := n4.fr _ _ (fun z => (by have := S1.dom Dl (S1.dkM Dl z); exact this hD)) hx3
    have n14 := n13.trans n4
    have r4 : Rps c.K c.J ((c.hide Dl).cl H4) acc xs := rx'.mono (hid_mono (fun _ z => z) sm) |>.mono (S3'.same n4)
    cases b with
    | true =>
      refine iteT ?_
      refine he ((c.hide Dl).wi σ2 γ2) H4 _ _ rfl S4 (by simpa using q4) fun y' H5 e n5 r5 q5 => ?_
      have hx5 : H5 Dl = some (.lst xs) := n5.fr _ _ (fun z => (by have := S1.dom Dl (S1.dkM Dl z); exact this hD)) hx4
      have n15 := n14.trans n5
      have hxl : xs.length ≤ i := by rw [r4.len]; exact hacc
      refine ⟨xs, hx5, Nat.lt_of_le_of_lt (Nat.le_trans hxl (Nat.le_trans hle hlen)) (by decide), rfl, hlt, acc ++ [e], xs ++ [y'], upd_same, ?_, by simp; omega, ?_, q5⟩
      · have s5 : Same ((c.hide Dl).cl H5) (hid (fun b => c.MT b ∨ b = Dl) (upd H5 Dl (.lst (xs ++ [y'])))) := fun b o e => by
          obtain ⟨e1, e2⟩ := hid_some.mp e
          refine hid_some.mpr ⟨fun z => e1 ((mt b).mpr z), ?_⟩
          rw [upd_ne (fun z => e1 ((mt b).mpr (.inr z)))]; exact e2
        exact ((r4.mono (S4.same n5)).app (Rps.one r5)).mono s5
      · refine ⟨fun b o nb e => ?_, ?_⟩
        · have : b ≠ Dl := fun z => by subst z; rw [hD] at e; cases e
          rw [upd_ne this]; exact n15.fr b o nb e
        · have dk5 := n15.dk
          cases hJ : c.J with
          | none => trivial
          | some p =>
            rw [hJ] at dk5
            obtain ⟨ne, cs, x1, x2, a1, a2, a3⟩ := dk5
            have nd : ∀ b, dks c.J b → b ≠ Dl := fun b z e => by subst e; exact S1.dom _ (S1.dkM _ z) hD
            exact ⟨ne, cs, x1, x2, by rw [upd_ne (nd _ (by rw [hJ]; exact .inl rfl))]; exact a1, by rw [upd_ne (nd _ (by rw [hJ]; exact .inr rfl))]; exact a2, a3⟩
    | false =>
      refine iteF ⟨rfl, hlt, acc, xs, hx4, ?_, by omega, n14, by simpa using q4⟩
      exact r4.mono (hid_mono (fun b z => (mt b).mpr z) (Same.refl _))
  · have e : i = items.length := by omega
    subst e
    rw [List.drop_eq_nil_of_le (Nat.le_refl _)] at q2
    exact .inl ⟨I.stop H2 n12.fr, k Dl xs H2 acc (n.free S hD) (n.trans n12) hx rx q2⟩
structure QTs (X : Cx) (ifs : List Expr) (tt : TT) (w : WT) : Prop where
  pts : PTs X ifs tt
  dt : DT X.K tt w
theorem ts_nil {X : Cx} : QTs X [] tYes wYes := ⟨pts_nil, fun c H Q Qv ek S hw k => k true H S.nx0 hw⟩
theorem ts_one {X : Cx} {e : Expr} {tt : TT} {w : WT} (h : QT X e tt w) : QTs X [e] tt w := ⟨pts_one h.pt, h.dt⟩
section
variable {X : Cx} {elt tg iter : Expr} {ifs : List Expr} {scope : Scope} {own : List (Str × Nat)} {pos spos : Pos} {wi : TI} {wl : WL} {wg : WG} {tch : List Nat} {wt : WT} {we : WE}
abbrev Bk (α : Type) := Shared → Hp → Addr → List (Str × Addr) → List Addr → α
theorem n_lc {g : Bk TG} {tt : Bk TT} {te : Bk TE} (hc : X.calm = true) (hN : X.N.Nodup) (hi : QIc X tg iter wi wl) (ok : BlkOk X.N X.env.scope scope own)
    (hg : ∀ (s : Shared) (H : Hp) (C : Addr) (cl : List (Str × Addr)) (fp : List Addr), QG (X.blk s H scope (compEnvC scope cl C X.env) fp) tg (g s H C cl fp) wg tch) (ht : ∀ (s : Shared) (H : Hp) (C : Addr) (cl : List (Str × Addr)) (fp : List Addr), QTs (X.blk s H scope (compEnvC scope cl C X.env) fp) ifs (tt s H C cl fp) wt)
    (he : ∀ (s : Shared) (H : Hp) (C : Addr) (cl : List (Str × Addr)) (fp : List Addr), QE (X.blk s H scope (compEnvC scope cl C X.env) fp) elt (te s H C cl fp) we) (htch : ∀ k ∈ tch, k ∈ own.map (·.2)) (hs : ∀ x, foldedSetIterable iter X.env x = pure x := by intro _; rfl)
    (eg : ∀ s H C cl fp, g s H C cl fp = g X.s_0 X.H_0 0 [] [] := by intros; rfl) (et : ∀ s H C cl fp, tt s H C cl fp = tt X.s_0 X.H_0 0 [] [] := by intros; rfl) (ee : ∀ s H C cl fp, te s H C cl fp = te X.s_0 X.H_0 0 [] [] := by intros; rfl) :
    QN X (.ListComp elt [⟨tg, iter, ifs, 0⟩] scope pos) (tLc wi (g X.s_0 X.H_0 0 [] []) (tt X.s_0 X.H_0 0 [] []) (te X.s_0 X.H_0 0 [] []) (own.map (·.2))) (wLc wl wg wt we (own.map (·.2))) :=
  ⟨pe_lc hc hN hi.pi ok (fun s H C cl fp => by rw [← eg s H C cl fp]; exact (hg s H C cl fp).pg) (fun s H C cl fp => by rw [← et s H C cl fp]; exact (ht s H C cl fp).pts) (fun s H C cl fp => by rw [← ee s H C cl fp]; exact (he s H C cl fp).pe) hs,
    dn_lc hi.di (hg X.s_0 X.H_0 0 [] []).dg htch (ht X.s_0 X.H_0 0 [] []).dt (he X.s_0 X.H_0 0 [] []).de⟩
end
end DL
/-! DL6 -/
set_option Elab.async false
set_option linter.all false
set_option maxRecDepth 100000
set_option maxHeartbeats 2100000
namespace DL
open PySem PySem.Spec L2 PyProof.Rows
/-! ## statements -/
structure DEnds where
  nx : Gm → Prop
  rt : D → Prop
  rl : List D → D → Prop := fun _ _ => False
  bk : Gm → Prop := fun _ => False
  ct : Gm → Prop := fun _ => False
abbrev WS := DEnds → Gm → Prop
structure Links (c : Cfg) (H : Hp) (E : DEnds) (D : Ends) : Prop where
  nx : ∀ (c' : Cfg) H', c'.toCal = c.toCal → Same (c.cl H) (c'.cl H') → Stt c' H' → E.nx c'.γ → D.nx c'.σ H'
  bk : ∀ (c' : Cfg) H', c'.toCal = c.toCal → Same (c.cl H) (c'.cl H') → Stt c' H' → E.bk c'.γ → D.bk c'.σ H'
  ct : ∀ (c' : Cfg) H', c'.toCal = c.toCal → Same (c.cl H) (c'.cl H') → Stt c' H' → E.ct c'.γ → D.ct c'.σ H'
  rt : ∀ v H' d, Nxt c.J c.H0 H' → Rp c.K c.J (hid c.M H') d v → E.rt d → D.rt v H'
  rl : ∀ t l xs y H' ds d, c.H0 t = none → c.H0 l = none → ¬ c.M t → ¬ c.M l → t ≠ l → Nxt c.J c.H0 H' → H' t = some (.tup [.ref l, y]) → H' l = some (.lst xs) →
    Rps c.K c.J (hid (fun b => c.M b ∨ b = l) H') ds xs → Rp c.K c.J (hid (fun b => c.M b ∨ b = l) H') d y → E.rl ds d → D.rt (.ref t) H'
theorem Links.to {c c' : Cfg} {H H' : Hp} {E : DEnds} {D : Ends} (L : Links c H E D) (e : c'.toCal = c.toCal) (s : Same (c.cl H) (c'.cl H')) : Links c' H' E D := by
  obtain ⟨⟨K, J, M, H0⟩, f, σ, γ⟩ := c
  obtain ⟨⟨K', J', M', H0'⟩, f', σ', γ'⟩ := c'
  cases e
  exact ⟨fun c2 H2 e2 s2 => L.nx c2 H2 e2 (s.trans s2), fun c2 H2 e2 s2 => L.bk c2 H2 e2 (s.trans s2), fun c2 H2 e2 s2 => L.ct c2 H2 e2 (s.trans s2), L.rt, L.rl⟩
theorem Links.nxt {c : Cfg} {H H' : Hp} {E : DEnds} {D : Ends} (L : Links c H E D) (S : Stt c H) (n : Nxt c.J H H') : Links c H' E D := L.to rfl (S.same n)
def DSt (K : PySem.W.Frag) (ts : TS) (w : WS) : Prop := ∀ (c : Cfg) (H : Hp) (E : DEnds) (D : Ends), c.K = K → Stt c H → w E c.γ → Links c H E D → ts D c.σ H
def wNext : WS := fun E γ => E.nx γ
def wSeq (a b : WS) : WS := fun E γ => a { E with nx := b E } γ
def wAsg (we : WE) (g : WG) : WS := fun E γ => we γ fun d => g d γ E.nx
def wAsgM (wl : WL) (i : Nat) : WS := fun E γ => wl γ fun ds => i < γ.length ∧ E.nx (γ.set i (.mu ds))
def wPar (i j : Nat) (wa : WL) : WS := fun E γ => wa γ fun ds => match ds with | [a, b] => E.nx ((γ.set i (.im a)).set j (.im b)) | _ => False
def wPar3 (i j l : Nat) (wa : WL) : WS := fun E γ => wa γ fun ds => match ds with | [a, b, d] => E.nx (((γ.set i (.im a)).set j (.im b)).set l (.im d)) | _ => False
def wIfS (t : WT) (a b : WS) : WS := fun E γ => t γ fun k => if k = true then a E γ else b E γ
def wRet (we : WE) : WS := fun E γ => we γ E.rt
def wRetM (i : Nat) : WS := fun E γ => match γ[i]? with | some (.mu ds) => E.rt (.lst ds) | _ => False
def wDrop (we : WE) : WS := fun E γ => we γ fun _ => E.nx γ
def wApp (i : Nat) (we : WE) : WS := fun E γ => match γ[i]? with | some (.mu ds) => we γ fun d => few ds ∧ E.nx (γ.set i (.mu (ds ++ [d]))) | _ => False
def wSetM (i : Nat) (wi we : WE) : WS := fun E γ => match γ[i]? with
  | some (.mu ds) => we γ fun d => wi γ fun j => (match j with | .int k => (0 ≤ k ∧ k < ds.length) ∧ E.nx (γ.set i (.mu (ds.set k.toNat d))) | _ => False)
  | _ => False
/-- xs[0], xs[b] = xs[b], xs[0] -/
def wSwap (i j : Nat) : WS := fun E γ => match γ[i]?, γ[j]? with
  | some (.mu ds), some (.im (.int b)) => (0 ≤ b ∧ b < ds.length) ∧ ∀ d e, ds[0]? = some d → ds[b.toNat]? = some e → E.nx (γ.set i (.mu ((ds.set 0 e).set b.toNat d)))
  | _, _ => False
def wFrz (i : Nat) (w : WS) : WS := fun E γ => match γ[i]? with | some (.mu ds) => w E (γ.set i (.im (.lst ds))) | _ => False
def wNever : WS := fun _ _ => False
def wForGo (g : WG) (tb : WS) (E : DEnds) : List D → Gm → Prop
  | [], γ => E.nx γ
  | x :: xs, γ => g x γ fun γ2 => tb { E with nx := wForGo g tb E xs, ct := wForGo g tb E xs, bk := E.nx } γ2
def wFor (wl : WL) (g : WG) (tb : WS) : WS := fun E γ => wl γ fun items => wForGo g tb E items γ
def wWhile (t : WT) (tb : WS) : WS := fun E γ => ∃ (Pv : Gm → Prop) (μ : Gm → Nat), Pv γ ∧ ∀ γ', Pv γ' → t γ' fun b => if b = true then tb { E with nx := fun γ2 => Pv γ2 ∧ μ γ2 < μ γ', ct := fun γ2 => Pv γ2 ∧ μ γ2 < μ γ', bk := E.nx } γ' else E.nx γ'
def wAug (i : Nat) (we : WE) (f : Int → Int → Int) : WS := fun E γ => match γ[i]? with
  | some (.im (.int a)) => we γ fun d => (match d with | .int b => E.nx (γ.set i (.im (.int (f a b)))) | _ => False)
  | _ => False

abbrev Cfg.mkMu (c : Cfg) (i : Nat) (p : Addr) (ds : List D) : Cfg := { c with f := fun j => if j = i then some p else c.f j, σ := c.σ.set i (some (.ref p)), γ := c.γ.set i (.mu ds) }
theorem mkMu_mt {c : Cfg} {i : Nat} {p : Addr} {ds : List D} {b : Addr} (h : (c.mkMu i p ds).MT b) : c.MT b ∨ b = p := by
  rcases h with h | ⟨j, h⟩
  · exact .inl (.inl h)
  · have h' : (if j = i then some p else c.f j) = some b := h
    split at h'
    · cases h'; exact .inr rfl
    · exact .inl (.inr ⟨j, h'⟩)
theorem Stt.h0_none {c : Cfg} {H : Hp} {p : Addr} (S : Stt c H) (hp : H p = none) : c.H0 p = none := by
  cases q : c.H0 p with
  | none => rfl
  | some o =>
    have nd : ¬ dks c.J p := fun z => S.dom p (S.dkM p z) hp
    rw [S.fr p o nd q] at hp; cases hp
theorem Stt.newMu {c : Cfg} {H H' : Hp} {i : Nat} {ds : List D} {p : Addr} {xs : List V} (S : Stt c H) (n : Nxt c.J H H') (hi : i < c.γ.length) (hp : H p = none) (hx : H' p = some (.lst xs))
    (r : Rps c.K c.J (hid (fun b => c.MT b ∨ b = p) H') ds xs) : Stt (c.mkMu i p ds) H' ∧ Same (c.cl H) ((c.mkMu i p ds).cl H') := by
  have sm : Same (c.cl H) ((c.mkMu i p ds).cl H') := fun b o e => by
    obtain ⟨e1, e2⟩ := hid_some.mp e
    refine hid_some.mpr ⟨fun z => ?_, n.fr b o (fun z => e1 (.inl (S.dkM b z))) e2⟩
    rcases mkMu_mt z with z | z
    · exact e1 z
    · subst z; rw [hp] at e2; cases e2
  have hi2 : i < c.σ.length := by rw [S.len]; exact hi
  refine ⟨⟨?_, fun j d h => ?_, fun j es h => ?_, fun j a h => ?_, fun j k a h1 h2 => ?_, fun b h => Fram.dom n (S.dom b h), S.dkM, n.dk, S.fr.trans n.fr⟩, sm⟩
  · show (c.σ.set i _).length = (c.γ.set i _).length
    rw [List.length_set, List.length_set]; exact S.len
  · have h' : (c.γ.set i (Slot.mu ds))[j]? = some (Slot.im d) := h
    show ∃ v, (c.σ.set i (some (.ref p)))[j]? = some (some v) ∧ Rp c.K c.J ((c.mkMu i p ds).cl H') d v
    by_cases hj : i = j
    · subst hj; rw [List.getElem?_set_self hi] at h'; cases h'
    · rw [List.getElem?_set_ne hj] at h' ⊢
      obtain ⟨v, h1, h2⟩ := S.im j d h'
      exact ⟨v, h1, h2.mono sm⟩
  · have h' : (c.γ.set i (Slot.mu ds))[j]? = some (Slot.mu es) := h
    show ∃ a ys, (if j = i then some p else c.f j) = some a ∧ (c.σ.set i (some (.ref p)))[j]? = some (some (.ref a)) ∧ H' a = some (.lst ys) ∧ Rps c.K c.J ((c.mkMu i p ds).cl H') es ys
    by_cases hj : i = j
    · subst hj
      rw [List.getElem?_set_self hi] at h'; cases h'
      exact ⟨p, xs, if_pos rfl, List.getElem?_set_self hi2, hx, r.mono (hid_mono (fun b z => mkMu_mt z) (Same.refl _))⟩
    · rw [List.getElem?_set_ne hj] at h' ⊢
      obtain ⟨a, ys, h0, h1, h2, h3⟩ := S.mu j es h'
      exact ⟨a, ys, by rw [if_neg (Ne.symm hj)]; exact h0, h1, n.fr a _ (fun z => (S.own j a h0).1 (S.dkM a z)) h2, h3.mono sm⟩
  · have h' : (if j = i then some p else c.f j) = some a := h
    split at h'
    · cases h'
      exact ⟨fun z => S.dom p z hp, S.h0_none hp, by rw [hx]; simp⟩
    · obtain ⟨a1, a2, a3⟩ := S.own j a h'
      exact ⟨a1, a2, Fram.dom n a3⟩
  · have h1' : (if j = i then some p else c.f j) = some a := h1
    have h2' : (if k = i then some p else c.f k) = some a := h2
    by_cases e1 : j = i
    · by_cases e2 : k = i
      · rw [e1, e2]
      · rw [if_pos e1] at h1'; rw [if_neg e2] at h2'
        cases h1'
        exact absurd hp (S.own k p h2').2.2
    · by_cases e2 : k = i
      · rw [if_neg e1] at h1'; rw [if_pos e2] at h2'
        cases h2'
        exact absurd hp (S.own j p h1').2.2
      · rw [if_neg e1] at h1'; rw [if_neg e2] at h2'
        exact S.inj j k a h1' h2'
/-- an own list changes -/
theorem Stt.updMu {c : Cfg} {H : Hp} {i : Nat} {ds es : List D} {a : Addr} {ys : List V} (S : Stt c H) (hm : c.γ[i]? = some (Slot.mu ds)) (ha : c.f i = some a) (r : Rps c.K c.J (c.cl H) es ys) :
    Stt (c.wi c.σ (c.γ.set i (.mu es))) (upd H a (.lst ys)) ∧ Same (c.cl H) ((c.wi c.σ (c.γ.set i (.mu es))).cl (upd H a (.lst ys))) := by
  have hMT : c.MT a := .inr ⟨i, ha⟩
  obtain ⟨o1, o2, o3⟩ := S.own i a ha
  have sm : Same (c.cl H) ((c.wi c.σ (c.γ.set i (.mu es))).cl (upd H a (.lst ys))) := fun b o e => by
    obtain ⟨e1, e2⟩ := hid_some.mp e
    refine hid_some.mpr ⟨e1, ?_⟩
    rw [upd_ne (fun z => e1 (by rw [z]; exact hMT))]; exact e2
  have nd : ¬ dks c.J a := fun z => o1 (S.dkM a z)
  have dmu : ∀ b, H b ≠ none → (upd H a (.lst ys)) b ≠ none := fun b h => by
    by_cases e : b = a
    · subst e; rw [upd_same]; simp
    · rw [upd_ne e]; exact h
  have hi : i < c.γ.length := (List.getElem?_eq_some_iff.mp hm).1
  refine ⟨⟨?_, fun j d h => ?_, fun j fs h => ?_, fun j b h => ?_, S.inj, fun b h => dmu b (S.dom b h), S.dkM, ?_, fun b o n1 e => ?_⟩, sm⟩
  · show c.σ.length = (c.γ.set i _).length
    rw [List.length_set]; exact S.len
  · have h' : (c.γ.set i (Slot.mu es))[j]? = some (Slot.im d) := h
    by_cases hj : i = j
    · subst hj; rw [List.getElem?_set_self hi] at h'; cases h'
    · rw [List.getElem?_set_ne hj] at h'
      obtain ⟨v, h1, h2⟩ := S.im j d h'
      exact ⟨v, h1, h2.mono sm⟩
  · have h' : (c.γ.set i (Slot.mu es))[j]? = some (Slot.mu fs) := h
    by_cases hj : i = j
    · subst hj
      rw [List.getElem?_set_self hi] at h'; cases h'
      obtain ⟨b, zs, h0, h1, h2, h3⟩ := S.mu i ds hm
      rw [ha] at h0; cases h0
      exact ⟨a, ys, ha, h1, upd_same, r.mono sm⟩
    · rw [List.getElem?_set_ne hj] at h'
      obtain ⟨b, zs, h0, h1, h2, h3⟩ := S.mu j fs h'
      refine ⟨b, zs, h0, h1, ?_, h3.mono sm⟩
      rw [upd_ne (fun z => hj (S.inj i j a ha (by rw [← z]; exact h0)))]; exact h2
  · obtain ⟨a1, a2, a3⟩ := S.own j b h
    exact ⟨a1, a2, dmu b a3⟩
  · have dk := S.deck
    cases hJ : c.J with
    | none => trivial
    | some p =>
      rw [hJ] at dk nd
      obtain ⟨ne, cs, x1, x2, b1, b2, b3⟩ := dk
      exact ⟨ne, cs, x1, x2, by rw [upd_ne (fun z => nd (.inl z.symm))]; exact b1, by rw [upd_ne (fun z => nd (.inr z.symm))]; exact b2, b3⟩
  · have : b ≠ a := fun z => by subst z; rw [o2] at e; cases e
    rw [upd_ne this]; exact S.fr b o n1 e
/-- an own list becomes one that stands still -/
abbrev Cfg.frz (c : Cfg) (i : Nat) (ds : List D) : Cfg := { c with f := fun j => if j = i then none else c.f j, γ := c.γ.set i (.im (.lst ds)) }
theorem Stt.freeze {c : Cfg} {H : Hp} {i : Nat} {ds : List D} (S : Stt c H) (hm : c.γ[i]? = some (Slot.mu ds)) : Stt (c.frz i ds) H ∧ Same (c.cl H) ((c.frz i ds).cl H) := by
  have hi : i < c.γ.length := (List.getElem?_eq_some_iff.mp hm).1
  have mt : ∀ b, (c.frz i ds).MT b → c.MT b := fun b h => by
    rcases h with h | ⟨j, h⟩
    · exact .inl h
    · have h' : (if j = i then none else c.f j) = some b := h
      split at h'
      · cases h'
      · exact .inr ⟨j, h'⟩
  have sm : Same (c.cl H) ((c.frz i ds).cl H) := hid_mono mt (Same.refl _)
  have ff : ∀ j a, (if j = i then none else c.f j) = some a → j ≠ i ∧ c.f j = some a := fun j a h' => by
    split at h'
    · cases h'
    · exact ⟨by assumption, h'⟩
  refine ⟨⟨?_, fun j d h => ?_, fun j fs h => ?_, fun j b h => S.own j b (ff j b h).2, fun j k a h1 h2 => S.inj j k a (ff j a h1).2 (ff k a h2).2, S.dom, S.dkM, S.deck, S.fr⟩, sm⟩
  · show c.σ.length = (c.γ.set i _).length
    rw [List.length_set]; exact S.len
  · have h' : (c.γ.set i (Slot.im (.lst ds)))[j]? = some (Slot.im d) := h
    by_cases hj : i = j
    · subst hj
      rw [List.getElem?_set_self hi] at h'; cases h'
      obtain ⟨a, xs, h0, h1, h2, h3⟩ := S.mu i ds hm
      refine ⟨.ref a, h1, a, xs, rfl, hid_some.mpr ⟨fun z => ?_, h2⟩, h3.mono sm⟩
      rcases z with z | ⟨k, z⟩
      · exact (S.own i a h0).1 z
      · obtain ⟨z1, z2⟩ := ff k a z
        exact z1 (S.inj k i a z2 h0)
    · rw [List.getElem?_set_ne hj] at h'
      obtain ⟨v, h1, h2⟩ := S.im j d h'
      exact ⟨v, h1, h2.mono sm⟩
  · have h' : (c.γ.set i (Slot.im (.lst ds)))[j]? = some (Slot.mu fs) := h
    by_cases hj : i = j
    · subst hj; rw [List.getElem?_set_self hi] at h'; cases h'
    · rw [List.getElem?_set_ne hj] at h'
      obtain ⟨b, zs, h0, h1, h2, h3⟩ := S.mu j fs h'
      refine ⟨b, zs, ?_, h1, h2, h3.mono sm⟩
      show (if j = i then none else c.f j) = some b
      rw [if_neg (Ne.symm hj)]; exact h0
section
variable {K : PySem.W.Frag} {t u : TS} {w1 w2 : WS} {te ti : TE} {we wi' : WE} {wl wa : WL} {g : TG} {wg : WG} {tch : List Nat} {tt : TT} {wt : WT} {ta : TA} {wi : TI} {i j l : Nat}
theorem st_nil : DSt K tNext wNext := by
  intro c H E D ek S hw L
  exact L.nx c H rfl (Same.refl _) S hw
theorem st_seq' (h1 : DSt K t w1) (h2 : DSt K u w2) : DSt K (tSeq t u) (wSeq w1 w2) := by
  intro c H E D ek S hw L
  refine h1 c H _ _ ek S hw ⟨fun c' H' e s S' q => ?_, L.bk, L.ct, L.rt, L.rl⟩
  exact h2 c' H' E D (by rw [e]; exact ek) S' q (L.to e s)
theorem st_asg (he : DE K te we) (hg : DG K g wg tch) : DSt K (tAsg te g) (wAsg we wg) := by
  intro c H E D ek S hw L
  subst ek
  refine he c H _ _ rfl S hw fun v H1 d n r q => ?_
  have S1 := S.next n
  have L1 := L.nxt S n
  exact hg.2 c H1 v d _ _ rfl S1 r q fun σ' γ' S2 o2 l2 q2 => L1.nx (c.wi σ' γ') H1 rfl (Same.refl _) S2 q2
theorem st_asgM (he : DN K te wl) : DSt K (tAsg te (gName i)) (wAsgM wl i) := by
  intro c H E D ek S hw L
  subst ek
  refine he c H _ _ rfl S hw fun p xs H1 ds hp n hx r q => ?_
  obtain ⟨S1, s1⟩ := S.newMu n q.1 hp hx r
  exact L.nx (c.mkMu i p ds) H1 rfl s1 S1 q.2
theorem st_par (ha : DA K ta wa) : DSt K (tPar i j ta) (wPar i j wa) := by
  intro c H E D ek S hw L
  subst ek
  refine ha c H _ _ rfl S hw fun vs H1 ds n r q => ?_
  split at q
  · obtain ⟨x, y, rfl, h1, h2⟩ := two_of r
    have S1 := S.next n
    have S2 := S1.setIm (i := i) h1
    have S3 := Stt.setIm (i := j) S2 h2
    exact ⟨x, y, rfl, (L.nxt S n).nx (c.wi ((c.σ.set i (some x)).set j (some y)) ((c.γ.set i (.im _)).set j (.im _))) H1 rfl (Same.refl _) S3 q⟩
  · exact q.elim
theorem st_par3 (ha : DA K ta wa) : DSt K (tPar3 i j l ta) (wPar3 i j l wa) := by
  intro c H E D ek S hw L
  subst ek
  refine ha c H _ _ rfl S hw fun vs H1 ds n r q => ?_
  split at q
  · obtain ⟨x, r1, rfl, h1, r2⟩ := r
    obtain ⟨y, z, rfl, h2, h3⟩ := two_of r2
    have S1 := S.next n
    have S2 := S1.setIm (i := i) h1
    have S3 := Stt.setIm (i := j) S2 h2
    have S4 := Stt.setIm (i := l) S3 h3
    exact ⟨x, y, z, rfl, (L.nxt S n).nx (c.wi (((c.σ.set i (some x)).set j (some y)).set l (some z)) (((c.γ.set i (.im _)).set j (.im _)).set l (.im _))) H1 rfl (Same.refl _) S4 q⟩
  · exact q.elim
theorem st_if (ht : DT K tt wt) (h1 : DSt K t w1) (h2 : DSt K u w2) : DSt K (tIfS tt t u) (wIfS wt w1 w2) := by
  intro c H E D ek S hw L
  refine ht c H _ _ ek S hw fun b H1 n q => ?_
  cases b with
  | true => exact iteT (h1 c H1 E D ek (S.next n) (by simpa using q) (L.nxt S n))
  | false => exact iteF (h2 c H1 E D ek (S.next n) (by simpa using q) (L.nxt S n))
theorem st_ret (he : DE K te we) : DSt K (tRet te) (wRet we) := by
  intro c H E D ek S hw L
  subst ek
  refine he c H _ _ rfl S hw fun v H1 d n r q => ?_
  exact L.rt v H1 d ⟨S.fr.trans n.fr, n.dk⟩ (r.mono (hid_mono (fun b z => .inl z) (Same.refl _))) q
theorem st_retM : DSt K (tRet (tVar i)) (wRetM i) := by
  intro c H E D ek S hw L
  subst ek
  unfold wRetM at hw
  split at hw
  · rename_i ds h
    obtain ⟨a, xs, h0, h1, h2, h3⟩ := S.mu i ds h
    exact ⟨_, h1, L.rt _ H (.lst ds) ⟨S.fr, S.deck⟩ ⟨a, xs, rfl, hid_some.mpr ⟨(S.own i a h0).1, h2⟩, h3.mono (hid_mono (fun b z => .inl z) (Same.refl _))⟩ hw⟩
  · exact hw.elim
theorem st_drop (he : DE K te we) : DSt K (tDrop te) (wDrop we) := by
  intro c H E D ek S hw L
  refine he c H _ _ ek S hw fun v H1 d n r q => ?_
  exact (L.nxt S n).nx c H1 rfl (Same.refl _) (S.next n) q
theorem st_never : DSt K tNever wNever := fun c H E D ek S hw L => hw.elim
theorem st_frz (h : DSt K t w1) : DSt K t (wFrz i w1) := by
  intro c H E D ek S hw L
  unfold wFrz at hw
  split at hw
  · rename_i ds hm
    obtain ⟨S1, s1⟩ := S.freeze hm
    exact h (c.frz i ds) H E D ek S1 hw (L.to rfl s1)
  · exact hw.elim
theorem tyV_list {p : Addr} {xs : List V} {H : Hp} (h : H p = some (.lst xs)) : tyV K "list" (.ref p) H := .inl ⟨rfl, _, SqL.of h⟩
theorem ixN_int {n : Nat} {k : Int} (h0 : 0 ≤ k) (h1 : k < n) : ixN n k = some k.toNat := by
  unfold ixN
  rw [if_pos h0, if_pos h1]
theorem st_app (he : DE K te we) : DSt K (tDrop (tBM K "list" rAppend (tVar i) (tCons te tNil))) (wApp i we) := by
  intro c H E D ek S hw L
  subst ek
  unfold wApp at hw
  split at hw
  · rename_i ds hm
    obtain ⟨a, xs, h0, h1, h2, h3⟩ := S.mu i ds hm
    refine ⟨_, h1, tyV_list h2, ?_⟩
    refine he c H _ _ rfl S hw fun v H1 d n r q => ?_
    have S1 := S.next n
    have nd : ¬ dks c.J a := fun z => (S.own i a h0).1 (S.dkM a z)
    have h2' := n.fr a _ nd h2
    refine ⟨a, xs, v, rfl, rfl, h2', ?_, ?_⟩
    · rw [h3.len]; exact Nat.lt_of_le_of_lt (Nat.le_of_ble_eq_true q.1) (by decide)
    · obtain ⟨S2, s2⟩ := S1.updMu hm h0 ((S.rps n h3).app (Rps.one r))
      exact (L.nxt S n).nx (c.wi c.σ (c.γ.set i (.mu (ds ++ [d])))) _ rfl s2 S2 q.2
  · exact hw.elim
theorem st_setM (he : DE K te we) (hi : DE K ti wi') : DSt K (tAsg te (gSub (tVar i) ti rSetL)) (wSetM i wi' we) := by
  intro c H E D ek S hw L
  subst ek
  unfold wSetM at hw
  split at hw
  · rename_i ds hm
    refine he c H _ _ rfl S hw fun v H1 d n r q => ?_
    have S1 := S.next n
    obtain ⟨a, xs, h0, h1, h2, h3⟩ := S1.mu i ds hm
    refine ⟨_, h1, ?_⟩
    refine hi c H1 _ _ rfl S1 q fun u H2 e n2 r2 q2 => ?_
    have S2 := S1.next n2
    cases e with
    | int k =>
      cases r2
      have nd : ¬ dks c.J a := fun z => (S.own i a h0).1 (S.dkM a z)
      have h2' := n2.fr a _ nd h2
      refine ⟨a, xs, k, k.toNat, rfl, rfl, h2', ixN_int q2.1.1 (by rw [h3.len]; exact q2.1.2), ?_⟩
      obtain ⟨S3, s3⟩ := S2.updMu hm h0 ((S1.rps n2 h3).set k.toNat (S1.rp n2 r))
      exact (L.nxt S (n.trans n2)).nx (c.wi c.σ (c.γ.set i (.mu (ds.set k.toNat d)))) _ rfl s3 S3 q2.2
    | _ => exact q2.elim
  · exact hw.elim
theorem st_swap : DSt K (tAsg (tTup (tCons (tOp (rIxL K) (tVar i) (tVar j)) (tCons (tOp (rIxL K) (tVar i) (tC (.int 0))) tNil))) (gTup K 2 (gCons (gSub (tVar i) (tC (.int 0)) rSetL) (gCons (gSub (tVar i) (tVar j) rSetL) gNil)))) (wSwap i j) := by
  intro c H E D ek S hw L
  subst ek
  unfold wSwap at hw
  split at hw
  · rename_i ds b hm hj
    obtain ⟨⟨b0, b1⟩, q⟩ := hw
    obtain ⟨p, xs, h0, h1, h2, h3⟩ := S.mu i ds hm
    obtain ⟨vj, hvj, rj⟩ := S.im j _ hj
    cases rj
    obtain ⟨d, hd⟩ : ∃ d, ds[0]? = some d := ⟨ds[0]'(by omega), by simp [show 0 < ds.length by omega]⟩
    obtain ⟨e, he⟩ : ∃ d, ds[b.toNat]? = some d := ⟨ds[b.toNat]'(by omega), by simp [show b.toNat < ds.length by omega]⟩
    obtain ⟨v, hv, rv⟩ := h3.get hd
    obtain ⟨u, hu, ru⟩ := h3.get he
    have l0 : (0 : Int) < (xs.length : Int) := by rw [h3.len]; omega
    have lb : b < (xs.length : Int) := by rw [h3.len]; exact b1
    have ax : atI xs 0 = some v := by unfold atI; rw [ixN_int (Int.le_refl 0) l0]; exact hv
    have ay : atI xs b = some u := by unfold atI; rw [ixN_int b0 lb]; exact hu
    refine ⟨_, h1, _, hvj, p, xs, b, u, rfl, rfl, SqL.of h2, ay, ?_⟩
    refine ⟨_, h1, p, xs, 0, v, rfl, rfl, SqL.of h2, ax, ?_⟩
    refine ⟨by show 2 ≤ sizeLine; decide, fun T hT => ?_⟩
    have nT := S.new hT (o := .tup [u, v])
    have ST := S.next nT
    have npT : p ≠ T := ne_of_none h2 hT
    have h2T : (upd H T (.tup [u, v])) p = some (.lst xs) := by rw [upd_ne npT]; exact h2
    have r3 := S.rps nT h3
    have ru' := S.rp nT ru
    have rv' := S.rp nT rv
    obtain ⟨S2, s2⟩ := ST.updMu hm h0 (r3.set 0 ru')
    have hm2 : (c.γ.set i (Slot.mu (ds.set 0 e)))[i]? = some (Slot.mu (ds.set 0 e)) := List.getElem?_set_self (List.getElem?_eq_some_iff.mp hm).1
    obtain ⟨S3, s3⟩ := S2.updMu (a := p) hm2 h0 (((r3.set 0 ru').mono s2).set b.toNat (rv'.mono s2))
    refine ⟨T, [u, v], rfl, SqT.of upd_same, rfl, u, [v], rfl, _, h1, p, xs, 0, 0, rfl, rfl, h2T, ixN_int (Int.le_refl 0) l0, ?_⟩
    refine ⟨v, [], rfl, _, h1, _, hvj, p, xs.set 0 u, b, b.toNat, rfl, rfl, upd_same, ixN_int b0 (by rw [List.length_set]; exact lb), rfl, ?_⟩
    have q' := q d e hd he
    have ess : (c.γ.set i (Slot.mu (ds.set 0 e))).set i (Slot.mu ((ds.set 0 e).set b.toNat d)) = c.γ.set i (Slot.mu ((ds.set 0 e).set b.toNat d)) := List.set_set ..
    refine (L.nxt S nT).nx (c.wi c.σ ((c.γ.set i (Slot.mu (ds.set 0 e))).set i (Slot.mu ((ds.set 0 e).set b.toNat d)))) _ rfl (s2.trans s3) S3 ?_
    show E.nx ((c.γ.set i (Slot.mu (ds.set 0 e))).set i (Slot.mu ((ds.set 0 e).set b.toNat d)))
    rw [ess]; exact q'
  · exact hw.elim
theorem st_aug {f : Int → Int → Int} (he : DE K te we) : DSt K (tAug i te (ipI f)) (wAug i we f) := by
  intro c H E D ek S hw L
  subst ek
  unfold wAug at hw
  split at hw
  · rename_i a hm
    obtain ⟨v, h1, h2⟩ := S.im i _ hm
    cases h2
    refine ⟨_, h1, ?_⟩
    refine he c H _ _ rfl S hw fun u H1 d n r q => ?_
    cases d with
    | int b =>
      cases r
      have S1 := S.next n
      have S2 : Stt (c.wi (c.σ.set i (some (.int (f a b)))) (c.γ.set i (.im (.int (f a b))))) H1 := S1.setIm rfl
      exact ⟨a, b, rfl, rfl, (L.nxt S n).nx (c.wi (c.σ.set i (some (.int (f a b)))) (c.γ.set i (.im (.int (f a b))))) H1 rfl (Same.refl _) S2 q⟩
    | _ => exact q.elim
  · exact hw.elim
theorem st_while (ht : DT K tt wt) (hb : DSt K t w1) : DSt K (tWhile tt t) (wWhile wt w1) := by
  intro c H E D ek S hw L
  subst ek
  obtain ⟨Pv, μ, h0, step⟩ := hw
  refine ⟨fun m σ H' => ∃ c' : Cfg, c'.toCal = c.toCal ∧ c'.σ = σ ∧ Same (c.cl H) (c'.cl H') ∧ Stt c' H' ∧ Pv c'.γ ∧ m = μ c'.γ, ⟨μ c.γ, c, rfl, rfl, Same.refl _, S, h0, rfl⟩, ?_⟩
  rintro m σ H1 ⟨c1, e1, rfl, s1, S1, p1, rfl⟩
  have eK : c1.K = c.K := congrArg Cal.K e1
  refine ht c1 H1 _ _ eK S1 (step c1.γ p1) fun b H2 n q => ?_
  have S2 := S1.next n
  have s2 : Same (c.cl H) (c1.cl H2) := s1.trans (S1.same n)
  have L2 : Links c1 H2 E D := L.to e1 s2
  cases b with
  | true =>
    refine iteT ⟨_, fun σ' H' h => h, ?_⟩
    refine hb c1 H2 { E with nx := fun γ2 => Pv γ2 ∧ μ γ2 < μ c1.γ, ct := fun γ2 => Pv γ2 ∧ μ γ2 < μ c1.γ, bk := E.nx } _ eK S2 (by simpa using q) ⟨fun c3 H3 e3 s3 S3 q3 => ?_, fun c3 H3 e3 s3 S3 q3 => L2.nx c3 H3 e3 s3 S3 q3, fun c3 H3 e3 s3 S3 q3 => ?_, L2.rt, L2.rl⟩
    · exact ⟨_, q3.2, c3, e3.trans e1, rfl, s2.trans s3, S3, q3.1, rfl⟩
    · exact ⟨_, q3.2, c3, e3.trans e1, rfl, s2.trans s3, S3, q3.1, rfl⟩
  | false => exact iteF (L2.nx c1 H2 rfl (Same.refl _) S2 (by simpa using q))
theorem st_for (hi : DI K wi wl) (hg : DG K g wg tch) (hb : DSt K t w1) : DSt K (tFor wi g t) (wFor wl wg w1) := by
  intro c H E D ek S hw L
  subst ek
  refine hi c H _ _ rfl S hw fun J H1 items n q I => ?_
  have S1 := S.next n
  have L1 := L.nxt S n
  refine ⟨fun i m σ H' => m = items.length - i ∧ i ≤ items.length ∧ ∃ c' : Cfg, c'.toCal = c.toCal ∧ c'.σ = σ ∧ Same (c.cl H1) (c'.cl H') ∧ Stt c' H' ∧ wForGo wg w1 E (items.drop i) c'.γ, ⟨_, rfl, Nat.zero_le _, c, rfl, rfl, Same.refl _, S1, q⟩, ?_⟩
  rintro i m σ H2 ⟨rfl, hle, c2, e2, rfl, s2, S2, q2⟩
  have eK : c2.K = c.K := congrArg Cal.K e2
  have eJ : c2.J = c.J := congrArg Cal.J e2
  have G2 : Same (c.cl H1) H2 := s2.trans hid_same
  have L2 : Links c2 H2 E D := L1.to e2 s2
  by_cases hlt : i < items.length
  · refine .inr ⟨I.go i H2 hlt G2, _, fun σ' H' h => h, fun x H3 y => ?_⟩
    obtain ⟨d, hd, sm, rp⟩ := I.yld i H2 x H3 hlt G2 y
    have edrop : items.drop i = d :: items.drop (i + 1) := by
      have hd' := (List.getElem?_eq_some_iff.mp hd).2
      rw [List.drop_eq_getElem_cons hlt, hd']
    rw [edrop] at q2
    have n3 : Nxt c2.J H2 H3 := Nxt.same S2.deck sm
    have S3 := S2.next n3
    have rd : Rp c.K c2.J (c2.cl H3) d x := by
      rw [eJ]
      exact rp c2.MT s2 S2.domT
    refine hg.2 c2 H3 x d _ _ eK S3 rd q2 fun σ' γ' S4 o4 l4 q4 => ?_
    have s3 : Same (c2.cl H2) ((c2.wi σ' γ').cl H3) := S2.same n3
    have L4 : Links (c2.wi σ' γ') H3 E D := L2.to rfl s3
    refine hb (c2.wi σ' γ') H3 { E with nx := wForGo wg w1 E (items.drop (i + 1)), ct := wForGo wg w1 E (items.drop (i + 1)), bk := E.nx } _ eK S4 q4 ⟨fun c5 H5 e5 s5 S5 q5 => ?_, fun c5 H5 e5 s5 S5 q5 => L4.nx c5 H5 e5 s5 S5 q5, fun c5 H5 e5 s5 S5 q5 => ?_, L4.rt, L4.rl⟩
    · exact ⟨items.length - (i + 1), by omega, rfl, hlt, c5, e5.trans e2, rfl, s2.trans (s3.trans s5), S5, q5⟩
    · exact ⟨items.length - (i + 1), by omega, rfl, hlt, c5, e5.trans e2, rfl, s2.trans (s3.trans s5), S5, q5⟩
  · have e : i = items.length := by omega
    subst e
    rw [List.drop_eq_nil_of_le (Nat.le_refl _)] at q2
    exact .inl ⟨I.stop H2 G2, L2.nx c2 H2 rfl (Same.refl _) S2 q2⟩
end
end DL
/-! DL7 -/
set_option Elab.async false
set_option linter.all false
set_option maxRecDepth 100000
set_option maxHeartbeats 2100000
namespace DL
open PySem PySem.Spec L2 PyProof.Rows
structure QSt (X : Cx) (st : Stmt) (ts : TS) (w : WS) : Prop where
  ps : PS X st ts
  ds : DSt X.K ts w
structure QSs (X : Cx) (sts : List Stmt) (ts : TS) (w : WS) : Prop where
  pss : PSs X sts ts
  ds : DSt X.K ts w
section
variable {X : Cx} {st : Stmt} {rest a b body : List Stmt} {t u : TS} {w1 w2 : WS} {e tg iter : Expr} {te : TE} {we : WE} {wl wa : WL} {g : TG} {wg : WG} {tch : List Nat} {pos : Pos} {ta : TA} {tt : TT} {wt : WT} {wi : TI}
theorem ss_nil : QSs X [] tNext wNext := ⟨pss_nil, st_nil⟩
theorem ss_cons (h1 : QSt X st t w1) (h2 : QSs X rest u w2) : QSs X (st :: rest) (tSeq t u) (wSeq w1 w2) := ⟨pss_cons h1.ps h2.pss, st_seq' h1.ds h2.ds⟩
theorem ss_one (h1 : QSt X st t w1) : QSs X [st] t w1 := ⟨pss_one h1.ps, h1.ds⟩
/-- name = e -/
theorem s_set {i : Nat} {x : Str} {pos' : Pos} (hN : X.N.Nodup) (hi : X.N[i]? = some x) (hx : Loc X.env.scope x) (he : QE X e te we) (hs : swapsWith e (some (.Name x pos')) pos.line X.env = pure false := by rfl) (hf : X.fn x = true ∨ X.env.scope.names.lookup x = some .local := by first | exact .inl rfl | exact .inr rfl | assumption) :
    QSt X (.Assign [.Name x pos'] e pos) (tAsg te (gName i)) (wAsg we (wgName i)) := ⟨L2.ps_set hN hi hx he.pe hs hf, st_asg he.de dg_name⟩
/-- name = a new list, the def's own from now on -/
theorem s_setM {i : Nat} {x : Str} {pos' : Pos} (hN : X.N.Nodup) (hi : X.N[i]? = some x) (hx : Loc X.env.scope x) (he : QN X e te wl) (hs : swapsWith e (some (.Name x pos')) pos.line X.env = pure false := by rfl) (hf : X.fn x = true ∨ X.env.scope.names.lookup x = some .local := by first | exact .inl rfl | exact .inr rfl | assumption) :
    QSt X (.Assign [.Name x pos'] e pos) (tAsg te (gName i)) (wAsgM wl i) := ⟨L2.ps_set hN hi hx he.pe hs hf, st_asgM he.dn⟩
theorem s_asg (he : QE X e te we) (hg : QG X tg g wg tch) (hs : swapsWithSole [tg] e pos.line X.env = pure false := by rfl) (hw : swappedStores [tg] e X.env = pure none := by rfl)
    (h1 : (assignEach [tg] X.env).map (·.2) = [assign tg X.env] := by rfl) : QSt X (.Assign [tg] e pos) (tAsg te g) (wAsg we wg) := ⟨ps_asg he.pe hg.pg hs hw h1, st_asg he.de hg.dg⟩
theorem s_par {i j : Nat} {x y : Str} {e1 e2 : Expr} {px py pt : Pos} {kt k2 pt2} (hc : X.calm = true) (hN : X.N.Nodup) (hi : X.N[i]? = some x) (hj : X.N[j]? = some y) (hij : i ≠ j)
    (hx : X.env.scope.names.lookup x = some .local) (hy : X.env.scope.names.lookup y = some .local) (ha : QA X [e1, e2] ta wa)
    (hw : swappedStores [.Tuple [.Name x px, .Name y py] kt pt] (.Tuple [e1, e2] k2 pt2) X.env = pure (some [x, y]))
    (hs : swapsWithSole [.Tuple [.Name x px, .Name y py] kt pt] (.Tuple [e1, e2] k2 pt2) pos.line X.env = pure false := by rfl) :
    QSt X (.Assign [.Tuple [.Name x px, .Name y py] kt pt] (.Tuple [e1, e2] k2 pt2) pos) (tPar i j ta) (wPar i j wa) := ⟨ps_par hc hN hi hj hij hx hy ha.pa hw hs, st_par ha.da⟩
theorem s_if {c : Expr} (hc : QT X c tt wt) (ha : QSs X a t w1) (hb : QSs X b u w2) : QSt X (.If c a b pos) (tIfS tt t u) (wIfS wt w1 w2) := ⟨ps_if hc.pt ha.pss hb.pss, st_if hc.dt ha.ds hb.ds⟩
theorem s_ret (he : QE X e te we) : QSt X (.Return (some e) pos) (tRet te) (wRet we) := ⟨ps_ret he.pe, st_ret he.de⟩
theorem s_retM (i : Nat) {x : Str} {p : Pos} (h : QE X (.Name x p) (tVar i) (wVar i)) : QSt X (.Return (some (.Name x p)) pos) (tRet (tVar i)) (wRetM i) := ⟨ps_ret h.pe, st_retM⟩
theorem s_expr (he : QE X e te we) (hs : swapsWith e none pos.line X.env = pure false := by rfl) : QSt X (.Expr e pos) (tDrop te) (wDrop we) := ⟨ps_expr he.pe hs, st_drop he.de⟩
theorem s_never : QSt X st tNever wNever := ⟨ps_never, st_never⟩
theorem s_frz (i : Nat) (h : QSt X st t w1) : QSt X st t (wFrz i w1) := ⟨h.ps, st_frz h.ds⟩
theorem s_while {c : Expr} (hp : PassesOwn (model X.prog X.w) X.A X.env X.xe) (hc : QT X c tt wt) (hb : QSs X body t w1) : QSt X (.While c body [] pos) (tWhile tt t) (wWhile wt w1) := ⟨ps_while hp hc.pt hb.pss, st_while hc.dt hb.ds⟩
theorem s_for (hp : PassesOwn (model X.prog X.w) X.A X.env X.xe) (hc : X.calm = true) (hi : QI X tg iter wi wl) (hg : QG X tg g wg tch) (hb : QSs X body t w1) (hs : ∀ x, foldedSetIterable iter X.env x = pure x := by intro _; rfl) :
    QSt X (.For tg iter body [] pos) (tFor wi g t) (wFor wl wg w1) := ⟨ps_for hp hc hi.pi hg.pg hb.pss hs, st_for hi.di hg.dg hb.ds⟩
theorem s_aug {i : Nat} {x : Str} {pos' : Pos} (hN : X.N.Nodup) (hi : X.N[i]? = some x) (hx : Loc X.env.scope x) (he : QE X e te we) (hf : X.fn x = true ∨ X.env.scope.names.lookup x = some .local := by first | exact .inl rfl | exact .inr rfl | assumption) :
    QSt X (.AugAssign (.Name x pos') .Add e pos) (tAug i te (ipI fun i j => i + j)) (wAug i we fun i j => i + j) := ⟨ps_aug hN hi hx he.pe ip_add hf, st_aug he.de⟩
/-- xs.append(e), xs the def's own -/
theorem s_app (i : Nat) {o : Expr} {apos cpos : Pos} (ho : QE X o (tVar i) (wVar i)) (he : QE X e te we) (hpe : PE X (.Call (.Attribute o "append" apos) [e] [] cpos) (tBM X.K "list" rAppend (tVar i) (tCons te tNil)))
    (hs : swapsWith (.Call (.Attribute o "append" apos) [e] [] cpos) none pos.line X.env = pure false := by rfl) : QSt X (.Expr (.Call (.Attribute o "append" apos) [e] [] cpos) pos) (tDrop (tBM X.K "list" rAppend (tVar i) (tCons te tNil))) (wApp i we) :=
  ⟨ps_expr hpe hs, st_app he.de⟩
end

/-! ## a def -/
def spD (K : PySem.W.Frag) (w : List D → (D → Prop) → Prop) : Sp := fun vs H Q _ => ∃ (J : JJ) (M : Addr → Prop) (ds : List D) (Qd : D → Prop), (∀ b, M b → H b ≠ none) ∧ (∀ b, dks J b → M b) ∧ DeckOk J H ∧ Rps K J (hid M H) ds vs ∧ w ds Qd ∧
  ∀ v H' d, Nxt J H H' → Rp K J (hid M H') d v → Qd d → Q v H'
/-- one that hands back a new list and a value -/
def spL (K : PySem.W.Frag) (w : List D → (List D → D → Prop) → Prop) : Sp := fun vs H Q _ => ∃ (J : JJ) (M : Addr → Prop) (ds : List D) (Qd : List D → D → Prop), (∀ b, M b → H b ≠ none) ∧ (∀ b, dks J b → M b) ∧ DeckOk J H ∧ Rps K J (hid M H) ds vs ∧ w ds Qd ∧
  ∀ t l xs y H' es d, H t = none → H l = none → t ≠ l → Nxt J H H' → H' t = some (.tup [.ref l, y]) → H' l = some (.lst xs) → Rps K J (hid (fun b => M b ∨ b = l) H') es xs → Rp K J (hid (fun b => M b ∨ b = l) H') d y → Qd es d → Q (.ref t) H'
def gm0 (n : Nat) (ds : List D) : Gm := ds.map Slot.im ++ List.replicate (n - ds.length) Slot.un
theorem stt_start {K : PySem.W.Frag} {J : JJ} {M : Addr → Prop} {H : Hp} {N : List Str} {ds : List D} {vs : List V} (h1 : ∀ b, M b → H b ≠ none) (h2 : ∀ b, dks J b → M b) (h3 : DeckOk J H) (r : Rps K J (hid M H) ds vs) :
    Stt ⟨⟨K, J, M, H⟩, fun _ => none, L2.start N vs, gm0 N.length ds⟩ H := by
  have mt : ∀ b, Cfg.MT ⟨⟨K, J, M, H⟩, fun _ => none, L2.start N vs, gm0 N.length ds⟩ b → M b := fun b h => by
    rcases h with h | ⟨j, h⟩
    · exact h
    · cases h
  have sl : ∀ (i : Nat) (s : Slot), (gm0 N.length ds)[i]? = some s → s = .un ∨ ∃ d, ds[i]? = some d ∧ s = .im d := fun i s h => by
    unfold gm0 at h
    by_cases hi : i < ds.length
    · rw [List.getElem?_append_left (by simpa using hi), List.getElem?_map] at h
      cases q : ds[i]? with
      | none => rw [q] at h; cases h
      | some d => rw [q] at h; cases h; exact .inr ⟨d, rfl, rfl⟩
    · rw [List.getElem?_append_right (by simpa using hi), List.getElem?_replicate] at h
      split at h
      · cases h; exact .inl rfl
      · cases h
  refine ⟨?_, fun i d h => ?_, fun i es h => ?_, fun i a h => (by cases h), fun i j a h => (by cases h), h1, h2, h3, Fram.refl⟩
  · show (L2.start N vs).length = (gm0 N.length ds).length
    unfold L2.start gm0
    simp [r.len]
  · rcases sl i _ h with z | ⟨e, z1, z2⟩
    · cases z
    · cases z2
      obtain ⟨v, h4, h5⟩ := r.get z1
      refine ⟨v, ?_, h5.mono (hid_mono mt (Same.refl _))⟩
      show (L2.start N vs)[i]? = _
      unfold L2.start
      rw [List.getElem?_append_left (by rw [List.length_map]; exact (List.getElem?_eq_some_iff.mp h4).1), List.getElem?_map, h4]; rfl
  · rcases sl i _ h with z | ⟨e, z1, z2⟩
    · cases z
    · cases z2
section
variable {base : Heap} {P : Program} {w : World} {K : PySem.W.Frag} {mg : Str → Option Value} {x qual : Str} {params : Arguments} {body : List Stmt} {scope : Scope} {dvs : List V} {kws : List (Str × V)} {f : Addr} {fd : FuncData} {N ps : List Str} {k : Nat}
theorem fn_D {wd : List D → (D → Prop) → Prop} (F : FunD K x qual params body scope dvs kws f fd) (S : FnScope N ps scope) (hl : ∀ ds Q, wd ds Q → ds.length = ps.length)
    (hb : ∀ (cdv : Value) (A : Around) (outer : List PySem.Env) (s : Shared) (H : Hp) (E : XK), Room k (A.deeper (envOfC qual scope s.heap.objs.size f cdv)) → ∀ ds Q, wd ds Q →
      ∃ ts ws, QSs (cxOf CX0 P w K mg base N qual scope f cdv A outer s H E).nox body ts ws ∧ ws { nx := fun _ => Q .non, rt := Q } (gm0 N.length ds)) : FnOk P w K mg base CX0 (k + 1) f fd ps (spD K wd) := by
  refine F.ok S (fun vs H Q E h => ?_) (fun cdv A outer s H vs Q E hr h => ?_)
  · obtain ⟨J, M, ds, Qd, h1, h2, h3, r, hw, _⟩ := h
    exact r.len.trans (hl ds Qd hw)
  · obtain ⟨J, M, ds, Qd, h1, h2, h3, r, hw, kq⟩ := h
    obtain ⟨ts, ws, q, h4⟩ := hb cdv A outer s H E hr ds Qd hw
    refine ⟨ts, PSs.nox q.pss, ?_⟩
    refine q.ds ⟨⟨K, J, M, H⟩, fun _ => none, L2.start N vs, gm0 N.length ds⟩ H _ _ rfl (stt_start h1 h2 h3 r) h4 ⟨fun c' H' e s' S' q' => ?_, fun c' H' e s' S' q' => q'.elim, fun c' H' e s' S' q' => q'.elim, fun v H' d n r' q' => kq v H' d n r' q', fun _ _ _ _ _ _ _ _ _ _ _ _ _ _ _ _ _ q' => q'.elim⟩
    have eJ : c'.J = J := congrArg Cal.J e
    have eH : c'.H0 = H := congrArg Cal.H0 e
    refine kq .non H' .non ⟨?_, eJ ▸ S'.deck⟩ rfl q'
    rw [← eJ, ← eH]; exact S'.fr
theorem fn_L {wd : List D → (List D → D → Prop) → Prop} (F : FunD K x qual params body scope dvs kws f fd) (S : FnScope N ps scope) (hl : ∀ ds Q, wd ds Q → ds.length = ps.length)
    (hb : ∀ (cdv : Value) (A : Around) (outer : List PySem.Env) (s : Shared) (H : Hp) (E : XK), Room k (A.deeper (envOfC qual scope s.heap.objs.size f cdv)) → ∀ ds Q, wd ds Q →
      ∃ ts ws, QSs (cxOf CX0 P w K mg base N qual scope f cdv A outer s H E).nox body ts ws ∧ ws { nx := fun _ => False, rt := fun _ => False, rl := Q } (gm0 N.length ds)) : FnOk P w K mg base CX0 (k + 1) f fd ps (spL K wd) := by
  refine F.ok S (fun vs H Q E h => ?_) (fun cdv A outer s H vs Q E hr h => ?_)
  · obtain ⟨J, M, ds, Qd, h1, h2, h3, r, hw, _⟩ := h
    exact r.len.trans (hl ds Qd hw)
  · obtain ⟨J, M, ds, Qd, h1, h2, h3, r, hw, kq⟩ := h
    obtain ⟨ts, ws, q, h4⟩ := hb cdv A outer s H E hr ds Qd hw
    refine ⟨ts, PSs.nox q.pss, ?_⟩
    exact q.ds ⟨⟨K, J, M, H⟩, fun _ => none, L2.start N vs, gm0 N.length ds⟩ H _ _ rfl (stt_start h1 h2 h3 r) h4 ⟨fun c' H' e s' S' q' => q'.elim, fun c' H' e s' S' q' => q'.elim, fun c' H' e s' S' q' => q'.elim, fun v H' d n r' q' => q'.elim,
      fun t l xs y H' es d a1 a2 _ _ a3 n a4 a5 a6 a7 q' => kq t l xs y H' es d a1 a2 a3 n a4 a5 a6 a7 q'⟩
end
/-- return (xs, e), xs the def's own list -/
def wRetL (i : Nat) (we : WE) : WS := fun E γ => match γ[i]? with | some (.mu ds) => we γ fun d => E.rl ds d | _ => False
theorem st_retL {K : PySem.W.Frag} {i : Nat} {te : TE} {we : WE} (he : DE K te we) : DSt K (tRet (tTup (tCons (tVar i) (tCons te tNil)))) (wRetL i we) := by
  intro c H E D ek S hw L
  subst ek
  unfold wRetL at hw
  split at hw
  · rename_i ds hm
    obtain ⟨a, xs, h0, h1, h2, h3⟩ := S.mu i ds hm
    refine ⟨_, h1, ?_⟩
    refine he c H _ _ rfl S hw fun v H1 d n r q => ⟨by show 2 ≤ sizeLine; decide, fun T hT => ?_⟩
    have S1 := S.next n
    obtain ⟨o1, o2, o3⟩ := S.own i a h0
    have nd : ¬ dks c.J a := fun z => o1 (S.dkM a z)
    have h2' := n.fr a _ nd h2
    have naT : a ≠ T := ne_of_none h2' hT
    have nT := S1.new hT (o := .tup [.ref a, v])
    have S2 := S1.next nT
    have mt : ∀ b, (c.M b ∨ b = a) → c.MT b := fun b z => z.elim .inl fun z => .inr ⟨i, by rw [z]; exact h0⟩
    refine L.rl T a xs v _ ds d (S.h0_none (n.free S hT)) o2 (fun z => S1.dom T z hT) o1 naT.symm ⟨S2.fr, S2.deck⟩ upd_same (by rw [upd_ne naT]; exact h2') ?_ ?_ q
    · exact ((S1.rps nT (S.rps n h3))).mono (hid_mono mt (Same.refl _))
    · exact (S1.rp nT r).mono (hid_mono mt (Same.refl _))
  · exact hw.elim
theorem s_retL {X : Cx} (i : Nat) {x : Str} {p pos tpos : Pos} {kk : Nat} {e : Expr} {te : TE} {we : WE} (h : QE X (.Name x p) (tVar i) (wVar i)) (he : QE X e te we) (hs : starEach (.Name x p :: [e]) X.env = (false, eval (.Name x p) X.env) :: starEach [e] X.env := by rfl) (hs2 : starEach (e :: []) X.env = (false, eval e X.env) :: starEach [] X.env := by rfl) :
    QSt X (.Return (some (.Tuple [.Name x p, e] kk tpos)) pos) (tRet (tTup (tCons (tVar i) (tCons te tNil)))) (wRetL i we) := ⟨ps_ret (pe_tup (pa_cons h.pe (pa_cons he.pe pa_nil hs2) hs)), st_retL he.de⟩

/-! ## calls of defs -/
/-- a def of the text that keeps its promise, and what its callers need -/
structure Def (P : Program) (w : World) (K : PySem.W.Frag) (mg : Str → Option Value) (base : Heap) (k : Nat) (x : Str) (ps : List Str) (sp : Sp) : Prop where
  ex : ∃ f fd, FnOk P w K mg base CX0 k f fd ps sp ∧ mg x = some (.ref f) ∧ PySem.W.keepIn K (.ref f) = true ∧ Binds K fd ps []
def wCall (wd : List D → (D → Prop) → Prop) (wa : WL) : WE := fun γ Q => wa γ fun ds => wd ds Q
theorem de_call {K : PySem.W.Frag} {wd : List D → (D → Prop) → Prop} {ta : TA} {wa : WL} {E : XK} (h : DA K ta wa) : DE K (tCall (spD K wd) [] E ta) (wCall wd wa) := by
  intro c H Q Qv ek S hw k
  subst ek
  refine h c H _ _ rfl S hw fun vs H1 ds n r q => ?_
  have S1 := S.next n
  show spD c.K wd (vs ++ []) H1 Qv E
  rw [List.append_nil]
  exact ⟨c.J, c.MT, ds, _, S1.domT, fun b z => .inl (S1.dkM b z), S1.deck, r, q, fun v H' d n2 r2 q2 => k v H' d (n.trans n2) r2 q2⟩
section
variable {X : Cx} {k : Nat} {x : Str} {p pos : Pos} {e : Expr} {es : List Expr} {ps : List Str} {ta : TA} {wa : WL} {wd : List D → (D → Prop) → Prop}
theorem q_call (F : Def X.prog X.w X.K X.mg X.base k x ps (spD X.K wd)) (hr : Room k X.A) (hg : Gl X x) (ha : QA X (e :: es) ta wa) (hdb : (x == ("__debug__" : Str)) = false := by decide)
    (he : starEach (e :: es) X.env = (false, eval e X.env) :: starEach es X.env := by rfl) (hpl : (backTo pos (starEach es X.env)).any (·.1) = false := by rfl) : QE X (.Call (.Name x p) (e :: es) [] pos) (tCall (spD X.K wd) [] E0 ta) (wCall wd wa) := by
  obtain ⟨f, fd, G, hm, hk, hb⟩ := F.ex
  exact ⟨pe_call G hr hg hm hk hb .nil pass0 ha.pa hdb he hpl, de_call ha.da⟩
end
end DL
/-! DL8 -/
set_option Elab.async false
set_option linter.all false
set_option maxRecDepth 100000
set_option maxHeartbeats 2100000
namespace DL
open PySem PySem.Spec L2 PyProof.Rows
/-! ## further operators -/
section
variable {X : Cx} {K : PySem.W.Frag} {e f g a : Expr} {t1 t2 t3 te : TE} {w1 w2 w3 we : WE} {wl : WL} {pos : Pos} {k : Nat}
def wChain2 (p q : Int → Int → Bool) (wa wb wc : WE) : WE := fun γ Q => wa γ fun x => wb γ fun y => match x, y with
  | .int i, .int j => if p i j = true then wc γ fun z => (match z with | .int l => Q (.bl (q j l)) | _ => False) else Q (.bl false)
  | _, _ => False
theorem de_chain {p q : Int → Int → Bool} (h1 : DE K t1 w1) (h2 : DE K t2 w2) (h3 : DE K t3 w3) : DE K (tChain (rI0 fun i j => .bl (p i j)) (rI0 fun i j => .bl (q i j)) t1 t2 t3) (wChain2 p q w1 w2 w3) := by
  intro c H Q Qv ek S hw k
  refine h1 c H _ _ ek S hw fun x H1 dx n1 r1 q1 => ?_
  refine h2 c H1 _ _ ek (S.next n1) q1 fun y H2 dy n2 r2 q2 => ?_
  split at q2
  · rename_i i j
    cases r1; cases r2
    have S2 := (S.next n1).next n2
    refine ⟨i, j, rfl, rfl, p i j, rfl, ?_⟩
    cases hp : p i j with
    | true =>
      rw [hp] at q2
      refine iteT (h3 c H2 _ _ ek S2 (by simpa using q2) fun z H3 dz n3 r3 q3 => ?_)
      cases dz with
      | int l => cases r3; exact ⟨j, l, rfl, rfl, k _ H3 (.bl _) ((n1.trans n2).trans n3) rfl q3⟩
      | _ => exact q3.elim
    | false =>
      rw [hp] at q2
      exact iteF (k _ H2 (.bl _) (n1.trans n2) rfl (by simpa using q2))
  · exact q2.elim
theorem q_chain_le_lt (h1 : QE X e t1 w1) (h2 : QE X f t2 w2) (h3 : QE X g t3 w3) (hm : lastMarks [.LtE, .Lt] [f, g] = false := by with_unfolding_all rfl) :
    QE X (.Compare e [.LtE, .Lt] [f, g] pos) (tChain (rI0 fun i j => .bl (decide (i ≤ j))) (rI0 fun i j => .bl (decide (i < j))) t1 t2 t3) (wChain2 (fun i j => decide (i ≤ j)) (fun i j => decide (i < j)) w1 w2 w3) := ⟨pe_chain op_le op_lt h1.pe h2.pe h3.pe hm, de_chain h1.de h2.de h3.de⟩
theorem q_chain_le_le (h1 : QE X e t1 w1) (h2 : QE X f t2 w2) (h3 : QE X g t3 w3) (hm : lastMarks [.LtE, .LtE] [f, g] = false := by with_unfolding_all rfl) :
    QE X (.Compare e [.LtE, .LtE] [f, g] pos) (tChain (rI0 fun i j => .bl (decide (i ≤ j))) (rI0 fun i j => .bl (decide (i ≤ j))) t1 t2 t3) (wChain2 (fun i j => decide (i ≤ j)) (fun i j => decide (i ≤ j)) w1 w2 w3) := ⟨pe_chain op_le op_le h1.pe h2.pe h3.pe hm, de_chain h1.de h2.de h3.de⟩
theorem t_chain_le_le (h1 : QE X e t1 w1) (h2 : QE X f t2 w2) (h3 : QE X g t3 w3) (hm : lastMarks [.LtE, .LtE] [f, g] = false := by with_unfolding_all rfl) :
    QT X (.Compare e [.LtE, .LtE] [f, g] pos) (tTest (tChain (rI0 fun i j => .bl (decide (i ≤ j))) (rI0 fun i j => .bl (decide (i ≤ j))) t1 t2 t3)) (wB (wChain2 (fun i j => decide (i ≤ j)) (fun i j => decide (i ≤ j)) w1 w2 w3)) := ⟨pt_chain op_le op_le h1.pe h2.pe h3.pe hm, dt_test (de_chain h1.de h2.de h3.de)⟩
/-- xs.index(y), ints -/
def wIndex (wl : WL) (we : WE) : WE := fun γ Q => wl γ fun ds => we γ fun d => match d with
  | .int y => ∃ ns : List Int, ds = ns.map D.int ∧ y ∈ ns ∧ ∀ j : Nat, ns[j]? = some y → (∀ m : Nat, m < j → ns[m]? ≠ some y) → Q (.int j)
  | _ => False
theorem first_at {y : Int} : ∀ {ns : List Int}, y ∈ ns → ∃ j : Nat, ns[j]? = some y ∧ ∀ m : Nat, m < j → ns[m]? ≠ some y
  | [], h => by cases h
  | x :: r, h => by
    by_cases e : x = y
    · exact ⟨0, by simp [e], fun m hm => by omega⟩
    · have h' : y ∈ r := by
        rcases List.mem_cons.mp h with (z | z)
        · exact absurd z.symm e
        · exact z
      obtain ⟨j, h1, h2⟩ := first_at h'
      refine ⟨j + 1, by simpa using h1, fun m hm => ?_⟩
      cases m with
      | zero => simp [e]
      | succ m => simpa using h2 m (by omega)
theorem de_index (h1 : DS K t1 wl) (h2 : DE K t2 w2) : DE K (tBM K "list" (rIndex K) t1 (tCons t2 tNil)) (wIndex wl w2) := by
  intro c H Q Qv ek S hw k
  subst ek
  refine h1 c H _ _ rfl S hw fun p xs H1 ds n1 nd hp r1 q1 => ⟨tyV_list hp, ?_⟩
  refine h2 c H1 _ _ rfl (S.next n1) q1 fun y H2 dy n2 r2 q2 => ?_
  cases dy with
  | int i =>
    cases r2
    obtain ⟨ns, rfl, hm, q3⟩ := q2
    obtain ⟨j, hj, hno⟩ := first_at hm
    have e := r1.ints
    subst e
    refine ⟨p, ns.map V.int, .int i, j, .int i, rfl, rfl, SqL.of (n2.fr p _ nd hp), rfl, ?_, by simp [hj], by simp [eqV], fun m z' hm hz => ?_, k _ H2 (.int _) (n1.trans n2) rfl (q3 j hj hno)⟩
    · simp [flatV]
    · rw [List.getElem?_map] at hz
      cases q : ns[m]? with
      | none => rw [q] at hz; cases hz
      | some b =>
        rw [q] at hz; cases hz
        have : b ≠ i := fun z => hno m hm (by rw [q, z])
        simp [eqV, this]
  | _ => exact q2.elim
theorem q_index {apos cpos : Pos} (h1 : QS X e t1 wl) (h2 : QE X f t2 w2) (hpe : PE X (.Call (.Attribute e "index" apos) [f] [] cpos) (tBM X.K "list" (rIndex X.K) t1 (tCons t2 tNil))) : QE X (.Call (.Attribute e "index" apos) [f] [] cpos) (tBM X.K "list" (rIndex X.K) t1 (tCons t2 tNil)) (wIndex wl w2) := ⟨hpe, de_index h1.ds h2.de⟩
/-- d.get(k, x), ints -/
def wGet (w1 w2 w3 : WE) : WE := fun γ Q => w1 γ fun d => match d with
  | .dct kvs => w2 γ fun k => w3 γ fun z => (match k, z with | .int i, .int x => Q (.int ((kvs.lookup i).getD x)) | _, _ => False)
  | _ => False
theorem valV_ints (i : Int) : ∀ kvs : List (Int × Int), valV (kvs.map fun p => ((Sum.inl p.1 : Key), V.int p.2)) (Sum.inl i) = (kvs.lookup i).map V.int
  | [] => rfl
  | (a, b) :: r => by
    rw [List.map_cons]
    by_cases e : a = i
    · subst e
      rw [valV_pos rfl]
      simp [List.lookup]
    · rw [valV_neg (fun z => e (Sum.inl.inj z)), valV_ints i r]
      have : (i == a) = false := by simp [Ne.symm e]
      simp [List.lookup, this]
theorem de_get (h1 : DE K t1 w1) (h2 : DE K t2 w2) (h3 : DE K t3 w3) : DE K (tDGet2 t1 t2 t3) (wGet w1 w2 w3) := by
  intro c H Q Qv ek S hw k
  subst ek
  refine h1 c H _ _ rfl S hw fun x H1 d n1 r1 q1 => ?_
  have S1 := S.next n1
  cases d with
  | dct kvs =>
    obtain ⟨a, rfl, ha⟩ := r1
    obtain ⟨h5, h6⟩ := hid_some.mp ha
    refine ⟨a, rfl, .inl ⟨_, .inl h6⟩, ?_⟩
    refine h2 c H1 _ _ rfl S1 q1 fun y H2 dy n2 r2 q2 => ?_
    refine h3 c H2 _ _ rfl (S1.next n2) q2 fun z H3 dz n3 r3 q3 => ?_
    have n23 := n2.trans n3
    have h7 := n23.fr a _ (fun z => h5 (.inl (S.dkM a z))) h6
    split at q3
    · rename_i i x
      cases r2; cases r3
      refine ⟨_, DGet.k (k := Sum.inl i) h7, ?_⟩
      rw [valV_ints]
      cases hl : kvs.lookup i with
      | none => rw [hl] at q3; exact k _ H3 (.int _) (n1.trans n23) rfl q3
      | some v => rw [hl] at q3; exact k _ H3 (.int _) (n1.trans n23) rfl q3
    · exact q3.elim
  | _ => exact q1.elim
theorem q_get {apos cpos : Pos} (hr : Room k X.A) (h1 : QE X e t1 w1) (h2 : QE X f t2 w2) (h3 : QE X g t3 w3) (m : M2 X e "get" apos f g cpos := by exact ⟨rfl, rfl, rfl, rfl⟩) : QE X (.Call (.Attribute e "get" apos) [f, g] [] cpos) (tDGet2 t1 t2 t3) (wGet w1 w2 w3) := ⟨pe_dget2 (hu_of hr) h1.pe h2.pe h3.pe m, de_get h1.de h2.de h3.de⟩
/-- dict(pairs), keys and values ints, no key twice -/
def pairD (p : Int × Int) : D := .tup [.int p.1, .int p.2]
def wsDict : List D → (D → Prop) → Prop := fun ds Q => ∃ ps : List (Int × Int), ds = ps.map pairD ∧ (ps.map (·.1)).Nodup ∧ Q (.dct ps)
theorem mergeK_nodup : ∀ (ps : List (Key × V)) (acc : List (Key × V)), (∀ p ∈ ps, ∀ q ∈ acc, q.1 ≠ p.1) → (ps.map (·.1)).Nodup → mergeK acc ps = acc ++ ps
  | [], acc, _, _ => by simp [mergeK]
  | p :: r, acc, h, nd => by
    have e : mergeK acc (p :: r) = mergeK (putK acc p.1 p.2) r := rfl
    have e2 : putK acc p.1 p.2 = acc ++ [p] := by
      unfold putK
      rw [if_neg]
      intro z
      obtain ⟨q, hq, hz⟩ := List.any_eq_true.mp z
      exact h p List.mem_cons_self q hq (of_decide_eq_true hz)
    obtain ⟨nd1, nd2⟩ := List.nodup_cons.mp nd
    rw [e, e2, mergeK_nodup r (acc ++ [p]) (fun a ha b hb => ?_) nd2, List.append_assoc]
    · rfl
    · rcases List.mem_append.mp hb with z | z
      · exact h a (List.mem_cons_of_mem _ ha) b z
      · have : b = p := by simpa using z
        subst this
        exact fun z => nd1 (List.mem_map.mpr ⟨a, ha, z.symm⟩)
abbrev rDictQ (K : PySem.W.Frag) : List V → Hp → VK → Prop := fun xs H Q => ∃ (a : Addr) (ps : List Addr) (kvs : List (Key × V)), xs = [.ref a] ∧ SqL K H a (ps.map V.ref) ∧ Paired (fun p kv => SqT K H p [kV kv.1, kv.2]) ps kvs ∧
    ∀ p, H p = none → Q (.ref p) (upd H p (.dK (mergeK [] kvs)))
theorem pairs_got {J : JJ} {H H' : Hp} (sm : Same H H') : ∀ {ps : List (Int × Int)} {xs : List V}, Rps K J H (ps.map pairD) xs → ∃ as : List Addr, xs = as.map V.ref ∧ Paired (fun p (kv : Key × V) => SqT K H' p [kV kv.1, kv.2]) as (ps.map fun p => ((Sum.inl p.1 : Key), V.int p.2))
  | [], _, h => ⟨[], h, .nil⟩
  | p :: r, _, ⟨v, us, e, ⟨a, ys, e1, h1, h2⟩, h3⟩ => by
    obtain ⟨as, e2, h4⟩ := pairs_got sm h3
    obtain ⟨x, y, e3, h5, h6⟩ := two_of h2
    cases h5; cases h6
    subst e e1 e2 e3
    exact ⟨a :: as, rfl, .cons (SqT.of (sm _ _ h1)) h4⟩
theorem dc_dict : DC K (rDictQ K) (fun ds Q => match ds with | [.lst es] => wsDict es Q | _ => False) := by
  intro c H vs ds Q Qv ek S r hw k
  subst ek
  split at hw
  · rename_i es
    obtain ⟨ps, rfl, nd, q⟩ := hw
    obtain ⟨x, rfl, a, xs, rfl, h1, h2⟩ := one_of r
    obtain ⟨as, e, hp⟩ := pairs_got (K := c.K) hid_same h2
    subst e
    refine ⟨a, as, _, rfl, SqL.of (cl_at h1), hp, fun l hl => ?_⟩
    have em : mergeK [] (ps.map fun p => ((Sum.inl p.1 : Key), V.int p.2)) = ps.map fun p => ((Sum.inl p.1 : Key), V.int p.2) := by
      rw [mergeK_nodup _ _ (fun _ _ q hq => by cases hq) ?_]
      · rfl
      · rw [List.map_map]
        have : ((fun x => x.1) ∘ fun (p : Int × Int) => ((Sum.inl p.1 : Key), V.int p.2)) = (fun i => (Sum.inl i : Key)) ∘ fun (p : Int × Int) => p.1 := rfl
        rw [this, ← List.map_map]
        exact List.Pairwise.map _ (fun a b h z => h (Sum.inl.inj z)) nd
    rw [em]
    exact k _ _ (.dct ps) (S.new hl) ⟨l, rfl, cl_new S hl⟩ q
  · exact hw.elim
theorem q_dict {p : Pos} (hg : Gl X "dict") (hm : X.mg "dict" = none) (ha : QE X e te we) (hc : X.calm = true := by rfl)
    (hs : starEach (e :: []) X.env = (false, eval e X.env) :: starEach [] X.env := by rfl) (hpl : (backTo pos (starEach [] X.env)).any (·.1) = false := by rfl) : QE X (.Call (.Name "dict" p) [e] [] pos) (tCB (rDictQ X.K) (tCons te tNil)) (wCB (fun ds Q => match ds with | [.lst es] => wsDict es Q | _ => False) (wCons we wNil)) :=
  ⟨pe_callTy (call_dictP hc) hg hm (by decide +kernel) (pa_cons ha.pe pa_nil hs) (by decide) (by decide) hs hpl, de_cb (da_cons ha.de da_nil) dc_dict⟩
/-- xs[i] = e, xs the def's own list -/
theorem s_setIx (i : Nat) {ps : Pos} (ho : QE X a (tVar i) (wVar i)) (hi : QE X f t2 w2) (he : QE X e te we) (h : ∀ v, assign (.Subscript a f ps) X.env v = (do
      let ov ← holding [v] (eval a X.env)
      let iv ← holding [v, ov] (eval f X.env)
      standAt ps
      holding [v, ov, iv] <| setItem ov iv v
      release [v, ov, iv] []) := by intro _; rfl) (hs : swapsWithSole [.Subscript a f ps] e pos.line X.env = pure false := by rfl) (hw : swappedStores [.Subscript a f ps] e X.env = pure none := by rfl)
    (h1 : (assignEach [.Subscript a f ps] X.env).map (·.2) = [assign (.Subscript a f ps) X.env] := by rfl) :
    QSt X (.Assign [.Subscript a f ps] e pos) (tAsg te (gSub (tVar i) t2 rSetL)) (wSetM i w2 we) := ⟨ps_asg he.pe (pg_sub ho.pe hi.pe set_list h) hs hw h1, st_setM he.de hi.de⟩
end

/-! ## == of data -/
mutual
def D.py : D → PyData
  | .non => .none
  | .bl b => .bool b
  | .int i => .int i
  | .str x => .str x
  | .tup ds => .tuple (D.pys ds)
  | .lst ds => .list (D.pys ds)
  | .dct _ => .dict []
  | .dk => .dict []
  | .scr _ => .dict []
def D.pys : List D → List PyData
  | [] => []
  | d :: ds => D.py d :: D.pys ds
end
mutual
theorem Rp.dp {K : PySem.W.Frag} {J : JJ} {H : Hp} : ∀ {d : D} {v : V}, Rp K J H d v → PyData.canLay0 d.py = true → Dp K H v d.py
  | .non, _, h, _ => by cases h; exact .non
  | .bl b, _, h, _ => by cases h; exact .bl b
  | .int i, _, h, _ => by cases h; exact .int i
  | .str x, _, h, _ => by cases h; exact .str x
  | .tup ds, _, ⟨a, xs, e, h1, h2⟩, hc => by
    subst e
    exact .tup (SqT.of h1) (Rps.dps h2 (by simpa [D.py, PyData.canLay0] using hc))
  | .lst ds, _, ⟨a, xs, e, h1, h2⟩, hc => by
    subst e
    exact .lst (SqL.of h1) (Rps.dps h2 (by simpa [D.py, PyData.canLay0] using hc))
  | .dct _, _, _, hc => by simp [D.py, PyData.canLay0] at hc
  | .dk, _, _, hc => by simp [D.py, PyData.canLay0] at hc
  | .scr _, _, _, hc => by simp [D.py, PyData.canLay0] at hc
theorem Rps.dps {K : PySem.W.Frag} {J : JJ} {H : Hp} : ∀ {ds : List D} {vs : List V}, Rps K J H ds vs → PyData.canLayAll0 (D.pys ds) = true → DpAll K H vs (D.pys ds)
  | [], _, h, _ => by cases h; exact .nil
  | d :: ds, _, ⟨v, r, e, h1, h2⟩, hc => by
    subst e
    have hc' : PyData.canLay0 d.py = true ∧ PyData.canLayAll0 (D.pys ds) = true := by simpa [D.pys, PyData.canLayAll0] using hc
    exact .cons (Rp.dp h1 hc'.1) (Rps.dps h2 hc'.2)
end
theorem Dp.same {K : PySem.W.Frag} {H H' : Hp} (e : Same H H') : True := trivial
/-- x == y is b -/
structure EqD (x y : D) (b : Bool) : Prop where
  sx : SeqAt.shaped x.py = true
  sy : SeqAt.shaped y.py = true
  eq : PyData.eqv x.py y.py = b
def dd (neg : Bool) : RW2 := fun x y Q => ∃ b, EqD x y b ∧ Q (.bl (if neg then !b else b))
section
variable {X : Cx} {K : PySem.W.Frag} {e f : Expr} {t1 t2 : TE} {w1 w2 : WE} {wl : WL} {pos : Pos} {k : Nat}
theorem shaped_lay {d : PyData} (h : SeqAt.shaped d = true) : d.canLay0 = true := (Bool.and_eq_true_iff.mp h).1
theorem rp_hid {J : JJ} {M : Addr → Prop} {H : Hp} {d : D} {v : V} (h : Rp K J (hid M H) d v) : Rp K J H d v := h.mono hid_same
theorem dr_eqD : DR K (rEqD K) (dd false) := by
  intro c H x y dx dy Q Qv ek S r1 r2 hw k
  obtain ⟨b, h, q⟩ := hw
  refine ⟨dx.py, dy.py, (rp_hid r1).dp (shaped_lay h.sx), (rp_hid r2).dp (shaped_lay h.sy), h.sx, h.sy, ?_⟩
  rw [h.eq]
  exact k _ H (.bl _) S.nx0 rfl q
theorem dr_neD : DR K (rNeD K) (dd true) := by
  intro c H x y dx dy Q Qv ek S r1 r2 hw k
  obtain ⟨b, h, q⟩ := hw
  refine ⟨dx.py, dy.py, (rp_hid r1).dp (shaped_lay h.sx), (rp_hid r2).dp (shaped_lay h.sy), h.sx, h.sy, ?_⟩
  rw [h.eq]
  exact k _ H (.bl _) S.nx0 rfl q
theorem q_eqD (hr : Room k X.A) (h1 : QE X e t1 w1) (h2 : QE X f t2 w2) : QE X (.Compare e [.Eq] [f] pos) (tOp (rEqD X.K) t1 t2) (wOp (dd false) w1 w2) := ⟨pe_cmpR (op_eqD hr.units) h1.pe h2.pe (nomark _), de_op h1.de h2.de dr_eqD⟩
theorem q_neD (hr : Room k X.A) (h1 : QE X e t1 w1) (h2 : QE X f t2 w2) : QE X (.Compare e [.NotEq] [f] pos) (tOp (rNeD X.K) t1 t2) (wOp (dd true) w1 w2) := ⟨pe_cmpR (op_neD hr.units) h1.pe h2.pe (nomark _), de_op h1.de h2.de dr_neD⟩
theorem t_eqD (hr : Room k X.A) (h1 : QE X e t1 w1) (h2 : QE X f t2 w2) : QT X (.Compare e [.Eq] [f] pos) (tTest (tOp (rEqD X.K) t1 t2)) (wB (wOp (dd false) w1 w2)) := ⟨pt_cmpR (op_eqD hr.units) h1.pe h2.pe (nomark _), dt_test (de_op h1.de h2.de dr_eqD)⟩
theorem t_neD (hr : Room k X.A) (h1 : QE X e t1 w1) (h2 : QE X f t2 w2) : QT X (.Compare e [.NotEq] [f] pos) (tTest (tOp (rNeD X.K) t1 t2)) (wB (wOp (dd true) w1 w2)) := ⟨pt_cmpR (op_neD hr.units) h1.pe h2.pe (nomark _), dt_test (de_op h1.de h2.de dr_neD)⟩
/-- y not in xs, ints -/
def wNotIn (we : WE) (wl : WL) : WE := fun γ Q => we γ fun d => wl γ fun ds => match d with | .int y => ∃ ns : List Int, ds = ns.map D.int ∧ Q (.bl (!decide (y ∈ ns))) | _ => False
theorem inV_ints (y : Int) (ns : List Int) : inV (.int y) (ns.map V.int) = decide (y ∈ ns) := by
  unfold inV
  induction ns with
  | nil => simp
  | cons n ns ih =>
    rw [List.map_cons, List.any_cons, ih]
    by_cases h : n = y
    · subst h; simp [eqV]
    · have h' : ¬ y = n := fun z => h z.symm
      simp [eqV, h, h']
theorem de_notIn (h1 : DE K t1 w1) (h2 : DS K t2 wl) : DE K (tOp (rIn K true) t1 t2) (wNotIn w1 wl) := by
  intro c H Q Qv ek S hw k
  subst ek
  refine h1 c H _ _ rfl S hw fun x H1 d n1 r1 q1 => ?_
  refine h2 c H1 _ _ rfl (S.next n1) q1 fun p xs H2 ds n2 nd hp r2 q2 => ?_
  cases d with
  | int y =>
    cases r1
    obtain ⟨ns, rfl, q⟩ := q2
    have e := r2.ints
    subst e
    refine ⟨p, _, rfl, .inl (SqL.of hp), rfl, by simp [List.all_eq_true, flatV], ?_⟩
    rw [if_pos rfl, inV_ints]
    exact k _ H2 (.bl _) (n1.trans n2) rfl q
  | _ => exact q2.elim
theorem t_notIn (h1 : QE X e t1 w1) (h2 : QS X f t2 wl) (hm : behindInMarks .NotIn f = false := by rfl) : QT X (.Compare e [.NotIn] [f] pos) (tTest (tOp (rIn X.K true) t1 t2)) (wB (wNotIn w1 wl)) := ⟨pt_cmpR op_notIn_seq h1.pe h2.pe hm, dt_test (de_notIn h1.de h2.ds)⟩
end

/-! ## own lists made among others, swapped -/
section
variable {K : PySem.W.Frag} {t1 t2 : TE} {w1 w2 : WE} {i j l : Nat}
theorem mkMu_rp {c : Cfg} {H : Hp} {p : Addr} {ds : List D} {d : D} {v : V} (h : Rp c.K c.J ((c.hide p).cl H) d v) : Rp c.K c.J ((c.mkMu i p ds).cl H) d v := h.mono (hid_mono (fun b z => by
  rcases mkMu_mt z with z | z
  · rcases z with z | z
    · exact .inl (.inl z)
    · exact .inr z
  · exact .inl (.inr z)) (Same.refl _))
/-- xs, a, b = [], e, f -/
def wParM1 (i j l : Nat) (w1 w2 : WE) : WS := fun E γ => w1 γ fun a => w2 γ fun b => i < γ.length ∧ E.nx (((γ.set i (.mu [])).set j (.im a)).set l (.im b))
theorem st_par3M1 (h1 : DE K t1 w1) (h2 : DE K t2 w2) : DSt K (tPar3 i j l (tCons (tLst tNil) (tCons t1 (tCons t2 tNil)))) (wParM1 i j l w1 w2) := by
  intro c H E D ek S hw L
  subst ek
  refine ⟨Nat.zero_le _, fun p hp => ?_⟩
  have nP := S.new hp (o := .lst [])
  have SP : Stt (c.hide p) (upd H p (.lst [])) := S.hideP nP hp (by rw [upd_same]; simp)
  refine h1 (c.hide p) _ _ _ rfl SP hw fun x H1 a n1 r1 q1 => ?_
  have S1 := SP.next n1
  refine h2 (c.hide p) H1 _ _ rfl S1 q1 fun y H2 b n2 r2 q2 => ?_
  have n02 : Nxt c.J H H2 := nP.trans (n1.trans n2)
  have npd : ¬ dks c.J p := fun z => S.dom p (S.dkM p z) hp
  have hx : H2 p = some (.lst []) := (n1.trans n2).fr p _ npd upd_same
  obtain ⟨S3, s3⟩ := S.newMu (ds := []) n02 q2.1 hp hx rfl
  have S4 := S3.setIm (i := j) (mkMu_rp (i := i) (ds := []) (S1.rp n2 r1))
  have S5 := Stt.setIm (i := l) S4 (mkMu_rp (i := i) (ds := []) r2)
  exact ⟨_, x, y, rfl, L.nx ((c.mkMu i p []).wi (((c.σ.set i (some (.ref p))).set j (some x)).set l (some y)) (((c.γ.set i (.mu [])).set j (.im a)).set l (.im b))) H2 rfl s3 S5 q2.2⟩
/-- a, b, xs = e, f, [] -/
def wParM3 (i j l : Nat) (w1 w2 : WE) : WS := fun E γ => w1 γ fun a => w2 γ fun b => l < γ.length ∧ E.nx (((γ.set i (.im a)).set j (.im b)).set l (.mu []))
theorem st_par3M3 (h1 : DE K t1 w1) (h2 : DE K t2 w2) : DSt K (tPar3 i j l (tCons t1 (tCons t2 (tCons (tLst tNil) tNil)))) (wParM3 i j l w1 w2) := by
  intro c H E D ek S hw L
  subst ek
  refine h1 c _ _ _ rfl S hw fun x H1 a n1 r1 q1 => ?_
  have S1 := S.next n1
  refine h2 c H1 _ _ rfl S1 q1 fun y H2 b n2 r2 q2 => ?_
  have S2 := S1.next n2
  refine ⟨Nat.zero_le _, fun p hp => ?_⟩
  have S3 := S2.setIm (i := i) (S1.rp n2 r1)
  have S4 := Stt.setIm (i := j) S3 r2
  have nP := S2.new hp (o := .lst [])
  obtain ⟨S5, s5⟩ := Stt.newMu (i := l) (ds := []) S4 nP (by show l < ((c.γ.set i _).set j _).length; rw [List.length_set, List.length_set]; exact q2.1) hp upd_same rfl
  exact ⟨x, y, _, rfl, (L.nxt S (n1.trans n2)).nx (Cfg.mkMu (c.wi ((c.σ.set i (some x)).set j (some y)) ((c.γ.set i (.im a)).set j (.im b))) l p []) _ rfl s5 S5 q2.2⟩
end
section
variable {X : Cx} {e f : Expr} {t1 t2 : TE} {w1 w2 : WE} {pos : Pos}
theorem s_parM1 {i j l : Nat} {x y z : Str} {px py pz pt pl : Pos} {kt k2 pt2} (hc : X.calm = true) (hN : X.N.Nodup) (hi : X.N[i]? = some x) (hj : X.N[j]? = some y) (hl : X.N[l]? = some z) (hij : i ≠ j) (hil : i ≠ l) (hjl : j ≠ l)
    (hx : X.env.scope.names.lookup x = some .local) (hy : X.env.scope.names.lookup y = some .local) (hz : X.env.scope.names.lookup z = some .local) (h1 : QE X e t1 w1) (h2 : QE X f t2 w2)
    (hps : PA X [.List [] pl, e, f] (tCons (tLst tNil) (tCons t1 (tCons t2 tNil))) → PS X (.Assign [.Tuple [.Name x px, .Name y py, .Name z pz] kt pt] (.Tuple [.List [] pl, e, f] k2 pt2) pos) (tPar3 i j l (tCons (tLst tNil) (tCons t1 (tCons t2 tNil)))))
    (a1 : starEach (.List [] pl :: [e, f]) X.env = (false, eval (.List [] pl) X.env) :: starEach [e, f] X.env := by rfl) (a2 : starEach (e :: [f]) X.env = (false, eval e X.env) :: starEach [f] X.env := by rfl) (a3 : starEach (f :: []) X.env = (false, eval f X.env) :: starEach [] X.env := by rfl) :
    QSt X (.Assign [.Tuple [.Name x px, .Name y py, .Name z pz] kt pt] (.Tuple [.List [] pl, e, f] k2 pt2) pos) (tPar3 i j l (tCons (tLst tNil) (tCons t1 (tCons t2 tNil)))) (wParM1 i j l w1 w2) :=
  ⟨hps (pa_cons (pe_lst pa_nil) (pa_cons h1.pe (pa_cons h2.pe pa_nil a3) a2) a1), st_par3M1 h1.de h2.de⟩
theorem s_parM3 {i j l : Nat} {x y z : Str} {px py pz pt pl : Pos} {kt k2 pt2} (hc : X.calm = true) (hN : X.N.Nodup) (hi : X.N[i]? = some x) (hj : X.N[j]? = some y) (hl : X.N[l]? = some z) (hij : i ≠ j) (hil : i ≠ l) (hjl : j ≠ l)
    (hx : X.env.scope.names.lookup x = some .local) (hy : X.env.scope.names.lookup y = some .local) (hz : X.env.scope.names.lookup z = some .local) (h1 : QE X e t1 w1) (h2 : QE X f t2 w2)
    (hps : PA X [e, f, .List [] pl] (tCons t1 (tCons t2 (tCons (tLst tNil) tNil))) → PS X (.Assign [.Tuple [.Name x px, .Name y py, .Name z pz] kt pt] (.Tuple [e, f, .List [] pl] k2 pt2) pos) (tPar3 i j l (tCons t1 (tCons t2 (tCons (tLst tNil) tNil)))))
    (a1 : starEach (.List [] pl :: []) X.env = (false, eval (.List [] pl) X.env) :: starEach [] X.env := by rfl) (a2 : starEach (e :: [f, .List [] pl]) X.env = (false, eval e X.env) :: starEach [f, .List [] pl] X.env := by rfl) (a3 : starEach (f :: [.List [] pl]) X.env = (false, eval f X.env) :: starEach [.List [] pl] X.env := by rfl) :
    QSt X (.Assign [.Tuple [.Name x px, .Name y py, .Name z pz] kt pt] (.Tuple [e, f, .List [] pl] k2 pt2) pos) (tPar3 i j l (tCons t1 (tCons t2 (tCons (tLst tNil) tNil)))) (wParM3 i j l w1 w2) :=
  ⟨hps (pa_cons h1.pe (pa_cons h2.pe (pa_cons (pe_lst pa_nil) pa_nil a1) a3) a2), st_par3M3 h1.de h2.de⟩
theorem s_swap (i j : Nat) {o a b : Expr} {p1 p2 p3 p4 pt pt2 : Pos} {k1 k2 : Nat} {z : Expr} (hc : X.calm = true) (ho : PE X o (tVar i)) (hb : PE X b (tVar j)) (hz : PE X z (tC (.int 0)))
    (hps : PE X (.Tuple [.Subscript o b p1, .Subscript o z p2] k1 pt) (tTup (tCons (tOp (rIxL X.K) (tVar i) (tVar j)) (tCons (tOp (rIxL X.K) (tVar i) (tC (.int 0))) tNil))) → PG X (.Tuple [.Subscript o z p3, .Subscript o b p4] k2 pt2) (gTup X.K 2 (gCons (gSub (tVar i) (tC (.int 0)) rSetL) (gCons (gSub (tVar i) (tVar j) rSetL) gNil))) → PS X (.Assign [.Tuple [.Subscript o z p3, .Subscript o b p4] k2 pt2] (.Tuple [.Subscript o b p1, .Subscript o z p2] k1 pt) pos) (tAsg (tTup (tCons (tOp (rIxL X.K) (tVar i) (tVar j)) (tCons (tOp (rIxL X.K) (tVar i) (tC (.int 0))) tNil))) (gTup X.K 2 (gCons (gSub (tVar i) (tC (.int 0)) rSetL) (gCons (gSub (tVar i) (tVar j) rSetL) gNil)))))
    (hv : PE X (.Tuple [.Subscript o b p1, .Subscript o z p2] k1 pt) (tTup (tCons (tOp (rIxL X.K) (tVar i) (tVar j)) (tCons (tOp (rIxL X.K) (tVar i) (tC (.int 0))) tNil)))) (hg : PG X (.Tuple [.Subscript o z p3, .Subscript o b p4] k2 pt2) (gTup X.K 2 (gCons (gSub (tVar i) (tC (.int 0)) rSetL) (gCons (gSub (tVar i) (tVar j) rSetL) gNil)))) :
    QSt X (.Assign [.Tuple [.Subscript o z p3, .Subscript o b p4] k2 pt2] (.Tuple [.Subscript o b p1, .Subscript o z p2] k1 pt) pos) (tAsg (tTup (tCons (tOp (rIxL X.K) (tVar i) (tVar j)) (tCons (tOp (rIxL X.K) (tVar i) (tC (.int 0))) tNil))) (gTup X.K 2 (gCons (gSub (tVar i) (tC (.int 0)) rSetL) (gCons (gSub (tVar i) (tVar j) rSetL) gNil)))) (wSwap i j) :=
  ⟨hps hv hg, st_swap⟩
end

/-! ## t * k -/
theorem tuple_mul1 (l : Addr) (items : Array Value) (n : Nat) (dd : Option Addr) (sl : Array (Option Value)) (u : Tok) :
    Meets (Builtin.«tuple.__mul__» ⟨[.ref l, .int 1 u], []⟩) (fun _ R s => s.heap.get? l = some { cls := .type "tuple", dict := dd, data := .seq items n, slots := sl } ∧ R (.ok (.ret (Value.ref l))) s) :=
  .of_wp fun pg w A R s h => by
    rcases s with ⟨hp, g, d, tk, os⟩
    obtain ⟨hl, h⟩ := h
    have f1 := AutoSeq1.idx_int
    wp_walk using (wpAny_loadPart' hl)
    exact ⟨_, rfl, h⟩
def rRepT1 (K : PySem.W.Frag) : R2 := fun x y H Q => ∃ l xs, x = .ref l ∧ y = .int 1 ∧ SqT K H l xs ∧ Q (.ref l) H
theorem op_repT1 {X : Cx} : OpR X (binaryOp .Mult) (rRepT1 X.K) := by
  intro pins s σ H x y v u Q I rx ry; intro h
  obtain ⟨l, xs, rfl, rfl, hT, q⟩ := h
  cases rx
  obtain ⟨t, rfl⟩ := ry
  obtain ⟨its, r, ⟨⟨cls, dd, data, sl⟩, ho, hc, n, hd⟩, _⟩ := I.tuple hT
  cases hc
  cases hd
  refine wpAny_binaryOp_repeat_ref (T := "tuple") (U := "int") (by decide) ⟨_, ho, rfl⟩ (fun s' => typeIs_int s' 1 t) noFill_tuple_mul F.fills_int_mul F.slot_int_rmul repeat_tuple F.slot_int_index.lookup ?_
  refine call_meets F.slot_int_rmul (typeIs_int s 1 t) F.entry_int_rmul (F.args_int_rmul_2 _ _) (int_rmul_tuple 1 t l its.toArray n dd sl) ⟨ho, rfl, ⟨_, ho, rfl⟩, ?_⟩
  exact call_meets F.slot_tuple_mul ⟨_, ho, rfl⟩ F.entry_tuple_mul (F.args_tuple_mul_2 _ _) (tuple_mul1 l its.toArray n dd sl t) ⟨ho, ⟨.ref l, H, I, rfl, q⟩⟩
def repD : RW2 := fun x y Q => match x, y with | .tup ds, .int k => (1 ≤ k ∧ k ≤ 1000 ∧ ds ≠ [] ∧ few ds) ∧ Q (.tup (List.replicate k.toNat ds).flatten) | _, _ => False
theorem dr_repT {K : PySem.W.Frag} : DR K (fun x y H Q => rRepT1 K x y H Q ∨ rRepT K x y H Q) repD := by
  intro c H x y dx dy Q Qv ek S r1 r2 hw k
  subst ek
  unfold repD at hw
  split at hw
  · rename_i ds i
    obtain ⟨⟨a1, a2, a3, a4⟩, q⟩ := hw
    obtain ⟨p, xs, rfl, h1, h2⟩ := r1
    cases r2
    by_cases e : i = 1
    · subst e
      refine .inl ⟨p, xs, rfl, rfl, SqT.of (cl_at h1), k _ H (.tup ds) S.nx0 ⟨p, xs, rfl, h1, h2⟩ ?_⟩
      have : (List.replicate (1 : Int).toNat ds).flatten = ds := by simp
      rw [this] at q
      exact q
    · refine .inr ⟨p, i, xs, rfl, rfl, SqT.of (cl_at h1), fun z => a3 (by have := h2.len; rw [z] at this; exact List.eq_nil_of_length_eq_zero this.symm), by omega, a2, by rw [h2.len]; exact Nat.le_of_ble_eq_true a4, fun l hl => ?_⟩
      exact k _ _ (.tup _) (S.new hl) ⟨l, _, rfl, cl_new S hl, (S.rps (S.new hl) h2).rep _⟩ q
  · exact hw.elim
theorem q_repT {X : Cx} {e f : Expr} {t1 t2 : TE} {w1 w2 : WE} {pos : Pos} (h1 : QE X e t1 w1) (h2 : QE X f t2 w2) : QE X (.BinOp e .Mult f pos) (tOp (fun x y H Q => rRepT1 X.K x y H Q ∨ rRepT X.K x y H Q) t1 t2) (wOp repD w1 w2) := ⟨pe_op (op_repT1.or op_repT) h1.pe h2.pe, de_op h1.de h2.de dr_repT⟩
end DL
/-! DL9 -/
set_option Elab.async false
set_option linter.all false
set_option maxRecDepth 100000
set_option maxHeartbeats 2100000
namespace DL
open PySem PySem.Spec L2 PyProof.Rows
/-! ## name = [..] on one line -/
section
variable {X : Cx} {elt tg iter : Expr} {ifs : List Expr} {scope : Scope} {own : List (Str × Nat)} {pos spos py : Pos} {wi : TI} {wl : WL} {wg : WG} {tch : List Nat} {wt : WT} {we : WE} {i : Nat} {y : Str}
theorem s_setLc {g : Bk TG} {tt : Bk TT} {te : Bk TE} (hc : X.calm = true) (hN : X.N.Nodup) (hy : X.N[i]? = some y) (hyl : X.env.scope.names.lookup y = some .local)
    (hsw : swapsWith (.ListComp elt [⟨tg, iter, ifs, 0⟩] scope pos) (some (.Name y py)) spos.line X.env = pure true) (hi : QIc X tg iter wi wl) (ok : BlkOk X.N X.env.scope scope own)
    (hg : ∀ (s : Shared) (H : Hp) (C : Addr) (cl : List (Str × Addr)) (fp : List Addr), QG (X.blk s H scope (compEnvC scope cl C X.env) fp) tg (g s H C cl fp) wg tch) (ht : ∀ (s : Shared) (H : Hp) (C : Addr) (cl : List (Str × Addr)) (fp : List Addr), QTs (X.blk s H scope (compEnvC scope cl C X.env) fp) ifs (tt s H C cl fp) wt)
    (he : ∀ (s : Shared) (H : Hp) (C : Addr) (cl : List (Str × Addr)) (fp : List Addr), QE (X.blk s H scope (compEnvC scope cl C X.env) fp) elt (te s H C cl fp) we) (htch : ∀ k ∈ tch, k ∈ own.map (·.2)) (hs : ∀ x, foldedSetIterable iter X.env x = pure x := by intro _; rfl)
    (eg : ∀ s H C cl fp, g s H C cl fp = g X.s_0 X.H_0 0 [] [] := by intros; rfl) (et : ∀ s H C cl fp, tt s H C cl fp = tt X.s_0 X.H_0 0 [] [] := by intros; rfl) (ee : ∀ s H C cl fp, te s H C cl fp = te X.s_0 X.H_0 0 [] [] := by intros; rfl) :
    QSt X (.Assign [.Name y py] (.ListComp elt [⟨tg, iter, ifs, 0⟩] scope pos) spos) (tAsg (tLc wi (g X.s_0 X.H_0 0 [] []) (tt X.s_0 X.H_0 0 [] []) (te X.s_0 X.H_0 0 [] []) (own.map (·.2))) (gName i)) (wAsg (wAsE (wLc wl wg wt we (own.map (·.2)))) (wgName i)) :=
  ⟨ps_setLc hc hN hy hyl hsw hi.pi ok (fun s H C cl fp => by rw [← eg s H C cl fp]; exact (hg s H C cl fp).pg) (fun s H C cl fp => by rw [← et s H C cl fp]; exact (ht s H C cl fp).pts) (fun s H C cl fp => by rw [← ee s H C cl fp]; exact (he s H C cl fp).pe) hs,
    st_asg (dn_lc hi.di (hg X.s_0 X.H_0 0 [] []).dg htch (ht X.s_0 X.H_0 0 [] []).dt (he X.s_0 X.H_0 0 [] []).de).de dg_name⟩
theorem s_setMLc {g : Bk TG} {tt : Bk TT} {te : Bk TE} (hc : X.calm = true) (hN : X.N.Nodup) (hy : X.N[i]? = some y) (hyl : X.env.scope.names.lookup y = some .local)
    (hsw : swapsWith (.ListComp elt [⟨tg, iter, ifs, 0⟩] scope pos) (some (.Name y py)) spos.line X.env = pure true) (hi : QIc X tg iter wi wl) (ok : BlkOk X.N X.env.scope scope own)
    (hg : ∀ (s : Shared) (H : Hp) (C : Addr) (cl : List (Str × Addr)) (fp : List Addr), QG (X.blk s H scope (compEnvC scope cl C X.env) fp) tg (g s H C cl fp) wg tch) (ht : ∀ (s : Shared) (H : Hp) (C : Addr) (cl : List (Str × Addr)) (fp : List Addr), QTs (X.blk s H scope (compEnvC scope cl C X.env) fp) ifs (tt s H C cl fp) wt)
    (he : ∀ (s : Shared) (H : Hp) (C : Addr) (cl : List (Str × Addr)) (fp : List Addr), QE (X.blk s H scope (compEnvC scope cl C X.env) fp) elt (te s H C cl fp) we) (htch : ∀ k ∈ tch, k ∈ own.map (·.2)) (hs : ∀ x, foldedSetIterable iter X.env x = pure x := by intro _; rfl)
    (eg : ∀ s H C cl fp, g s H C cl fp = g X.s_0 X.H_0 0 [] [] := by intros; rfl) (et : ∀ s H C cl fp, tt s H C cl fp = tt X.s_0 X.H_0 0 [] [] := by intros; rfl) (ee : ∀ s H C cl fp, te s H C cl fp = te X.s_0 X.H_0 0 [] [] := by intros; rfl) :
    QSt X (.Assign [.Name y py] (.ListComp elt [⟨tg, iter, ifs, 0⟩] scope pos) spos) (tAsg (tLc wi (g X.s_0 X.H_0 0 [] []) (tt X.s_0 X.H_0 0 [] []) (te X.s_0 X.H_0 0 [] []) (own.map (·.2))) (gName i)) (wAsgM (wLc wl wg wt we (own.map (·.2))) i) :=
  ⟨ps_setLc hc hN hy hyl hsw hi.pi ok (fun s H C cl fp => by rw [← eg s H C cl fp]; exact (hg s H C cl fp).pg) (fun s H C cl fp => by rw [← et s H C cl fp]; exact (ht s H C cl fp).pts) (fun s H C cl fp => by rw [← ee s H C cl fp]; exact (he s H C cl fp).pe) hs,
    st_asgM (dn_lc hi.di (hg X.s_0 X.H_0 0 [] []).dg htch (ht X.s_0 X.H_0 0 [] []).dt (he X.s_0 X.H_0 0 [] []).de)⟩
end
/-! ## xs, e = f(..), f one that hands back a new list and a value -/
def wAsgL (i j : Nat) (wd : List D → (List D → D → Prop) → Prop) (wa : WL) : WS := fun E γ => wa γ fun ds => wd ds fun es d => i < γ.length ∧ E.nx ((γ.set i (.mu es)).set j (.im d))
theorem st_asgL {K : PySem.W.Frag} {wd : List D → (List D → D → Prop) → Prop} {ta : TA} {wa : WL} {E0 : XK} {i j : Nat} (ha : DA K ta wa) : DSt K (tAsg (tCall (spL K wd) [] E0 ta) (gTup K 2 (gCons (gName i) (gCons (gName j) gNil)))) (wAsgL i j wd wa) := by
  intro c H E D ek S hw L
  subst ek
  refine ha c H _ _ rfl S hw fun vs H1 ds n r q => ?_
  have S1 := S.next n
  show spL c.K wd (vs ++ []) H1 _ E0
  rw [List.append_nil]
  refine ⟨c.J, c.MT, ds, _, S1.domT, fun b z => .inl (S1.dkM b z), S1.deck, r, q, fun t l xs y H' es d ht hl tl n2 a4 a5 a6 a7 q' => ?_⟩
  obtain ⟨hi, q'⟩ := q'
  obtain ⟨S2, s2⟩ := S1.newMu n2 hi hl a5 a6
  have r2 : Rp c.K (c.mkMu i l es).J ((c.mkMu i l es).cl H') d y := a7.mono (hid_mono (fun b z => mkMu_mt z) (Same.refl _))
  have S3 := Stt.setIm (i := j) S2 r2
  refine ⟨t, [.ref l, y], rfl, SqT.of a4, rfl, .ref l, [y], rfl, y, [], rfl, rfl, ?_⟩
  exact (L.nxt S n).nx ((c.mkMu i l es).wi ((c.σ.set i (some (.ref l))).set j (some y)) ((c.γ.set i (.mu es)).set j (.im d))) H' rfl s2 S3 q'
theorem s_asgL {X : Cx} {k i j : Nat} {x y f : Str} {p pos spos px py tp : Pos} {kk : Nat} {e : Expr} {es : List Expr} {ps : List Str} {ta : TA} {wa : WL} {wd : List D → (List D → D → Prop) → Prop}
    (F : Def X.prog X.w X.K X.mg X.base k f ps (spL X.K wd)) (hr : Room k X.A) (hg : Gl X f) (ha : QA X (e :: es) ta wa) (hc : X.calm = true) (hN : X.N.Nodup) (hi : X.N[i]? = some x) (hj : X.N[j]? = some y) (hx : Loc X.env.scope x) (hy : Loc X.env.scope y) (hdb : (f == ("__debug__" : Str)) = false := by decide)
    (he : starEach (e :: es) X.env = (false, eval e X.env) :: starEach es X.env := by rfl) (hpl : (backTo pos (starEach es X.env)).any (·.1) = false := by rfl) (hf1 : X.fn x = true ∨ X.env.scope.names.lookup x = some .local := by first | exact .inl rfl | exact .inr rfl | assumption) (hf2 : X.fn y = true ∨ X.env.scope.names.lookup y = some .local := by first | exact .inl rfl | exact .inr rfl | assumption)
    (hs : swapsWithSole [.Tuple [.Name x px, .Name y py] kk tp] (.Call (.Name f p) (e :: es) [] pos) spos.line X.env = pure false := by rfl) (hw : swappedStores [.Tuple [.Name x px, .Name y py] kk tp] (.Call (.Name f p) (e :: es) [] pos) X.env = pure none := by rfl)
    (h1 : (assignEach [.Tuple [.Name x px, .Name y py] kk tp] X.env).map (·.2) = [assign (.Tuple [.Name x px, .Name y py] kk tp) X.env] := by rfl)
    (hn : (assignEach [.Name x px, .Name y py] X.env).length = 2 := by rfl) (hst : (assignEach [.Name x px, .Name y py] X.env).findIdx? (·.1) = none := by rfl)
    (q1 : assignEach [.Name x px, .Name y py] X.env = (false, assign (.Name x px) X.env) :: assignEach [.Name y py] X.env := by rfl) (q2 : assignEach [.Name y py] X.env = (false, assign (.Name y py) X.env) :: assignEach [] X.env := by rfl) :
    QSt X (.Assign [.Tuple [.Name x px, .Name y py] kk tp] (.Call (.Name f p) (e :: es) [] pos) spos) (tAsg (tCall (spL X.K wd) [] E0 ta) (gTup X.K 2 (gCons (gName i) (gCons (gName j) gNil)))) (wAsgL i j wd wa) := by
  obtain ⟨fa, fd, G, hm, hk, hb⟩ := F.ex
  exact ⟨ps_asg (pe_call G hr hg hm hk hb .nil pass0 ha.pa hdb he hpl) (pg_tup hc (pgs_cons (pg_name hN hi hx hf1) (pgs_cons (pg_name hN hj hy hf2) pgs_nil)) hn hst) hs hw h1, st_asgL ha.da⟩
/-- xs[0], xs[b] = xs[b], xs[0] -/
theorem s_swap2 {X : Cx} (i j : Nat) {tg e : Expr} {pos : Pos}
    (hv : PE X e (tTup (tCons (tOp (rIxL X.K) (tVar i) (tVar j)) (tCons (tOp (rIxL X.K) (tVar i) (tC (.int 0))) tNil)))) (hg : PG X tg (gTup X.K 2 (gCons (gSub (tVar i) (tC (.int 0)) rSetL) (gCons (gSub (tVar i) (tVar j) rSetL) gNil))))
    (hs : swapsWithSole [tg] e pos.line X.env = pure false := by rfl) (hw : swappedStores [tg] e X.env = pure none := by rfl) (h1 : (assignEach [tg] X.env).map (·.2) = [assign tg X.env] := by rfl) :
    QSt X (.Assign [tg] e pos) (tAsg (tTup (tCons (tOp (rIxL X.K) (tVar i) (tVar j)) (tCons (tOp (rIxL X.K) (tVar i) (tC (.int 0))) tNil))) (gTup X.K 2 (gCons (gSub (tVar i) (tC (.int 0)) rSetL) (gCons (gSub (tVar i) (tVar j) rSetL) gNil)))) (wSwap i j) :=
  ⟨ps_asg hv hg hs hw h1, st_swap⟩
/-- list(range(n)) -/
theorem n_listRg {X : Cx} {e : Expr} {te : TE} {we : WE} {p p2 pos pos2 : Pos} (hc : X.calm = true) (hg : Gl X "list") (hm : X.mg "list" = none) (hg2 : Gl X "range") (hm2 : X.mg "range" = none) (he : QE X e te we) (na : starEach [e] X.env = (false, eval e X.env) :: starEach [] X.env := by rfl)
    (na2 : starEach [.Call (.Name "range" p2) [e] [] pos2] X.env = (false, eval (.Call (.Name "range" p2) [e] [] pos2) X.env) :: starEach [] X.env := by rfl) : QN X (.Call (.Name "list" p) [.Call (.Name "range" p2) [e] [] pos2] [] pos) (tLstRg (tRg1 te)) (wListRg we) :=
  ⟨pe_listRg hc hg hm (prg_1 hg2 hm2 he.pe na) na2, dn_listRg he.de⟩
end DL
/-! DL10 -/
set_option Elab.async false
set_option linter.all false
set_option maxRecDepth 100000
set_option maxHeartbeats 2100000
namespace DL
open PySem PySem.Spec L2 PyProof.Rows
/-! ## x != y of strings, told by both cases -/
section
variable {X : Cx} {K : PySem.W.Frag} {e f : Expr} {t1 t2 : TE} {w1 w2 : WE} {pos : Pos}
def neP : Str → Str → (D → Prop) → Prop := fun i j Q => (i = j → Q (.bl false)) ∧ (i ≠ j → Q (.bl true))
theorem dr_neS2 : DR K rNe (ss neP) := by
  intro c H x y dx dy Q Qv e S rx ry hw k
  unfold ss at hw
  split at hw
  · rename_i i j
    cases rx; cases ry
    refine ⟨rfl, ?_⟩
    obtain ⟨q1, q2⟩ := hw
    by_cases h : i = j
    · have e1 : decide (V.str i = V.str j) = true := by simp [h]
      rw [e1]
      exact k _ H (.bl _) S.nx0 rfl (q1 h)
    · have e1 : decide (V.str i = V.str j) = false := by simp [h]
      rw [e1]
      exact k _ H (.bl _) S.nx0 rfl (q2 h)
  · exact hw.elim
theorem t_neS2 (h1 : QE X e t1 w1) (h2 : QE X f t2 w2) : QT X (.Compare e [.NotEq] [f] pos) (tTest (tOp rNe t1 t2)) (wB (wOp (ss neP) w1 w2)) := ⟨pt_cmpR op_ne h1.pe h2.pe (nomark _), dt_test (de_op h1.de h2.de dr_neS2)⟩
end
/-- what follows a statement, hidden behind a name -/
theorem seqG {a b : WS} {E : DEnds} {γ : Gm} (h : ∀ N : Gm → Prop, (∀ γ2, b E γ2 → N γ2) → a { E with nx := N } γ) : wSeq a b E γ := h _ fun _ q => q
theorem ifS {t : WT} {a b : WS} {E : DEnds} {γ : Gm} (h : t γ fun k => if k = true then a E γ else b E γ) : wIfS t a b E γ := h
theorem andOf {a b : Prop} (h1 : a) (h2 : b) : a ∧ b := ⟨h1, h2⟩
theorem ifTrue {t : WT} {a b : WS} {E : DEnds} {γ : Gm} (ht : ∀ Q : Bool → Prop, Q true → t γ Q) (h : a E γ) : wIfS t a b E γ := ht _ (by rw [if_pos rfl]; exact h)
theorem ifFalse {t : WT} {a b : WS} {E : DEnds} {γ : Gm} (ht : ∀ Q : Bool → Prop, Q false → t γ Q) (h : b E γ) : wIfS t a b E γ := ht _ (by rw [if_neg (by decide)]; exact h)
/-- a, b, xs = e, f, [], by a tuple -/
theorem st_asgM3 {K : PySem.W.Frag} {t1 t2 : TE} {w1 w2 : WE} {i j l : Nat} (h1 : DE K t1 w1) (h2 : DE K t2 w2) : DSt K (tAsg (tTup (tCons t1 (tCons t2 (tCons (tLst tNil) tNil)))) (gTup K 3 (gCons (gName i) (gCons (gName j) (gCons (gName l) gNil))))) (wParM3 i j l w1 w2) := by
  intro c H E D ek S hw L
  subst ek
  refine h1 c _ _ _ rfl S hw fun x H1 a n1 r1 q1 => ?_
  have S1 := S.next n1
  refine h2 c H1 _ _ rfl S1 q1 fun y H2 b n2 r2 q2 => ?_
  have S2 := S1.next n2
  refine ⟨Nat.zero_le _, fun p hp => ⟨by show 3 ≤ sizeLine; decide, fun q hq => ?_⟩⟩
  have nP := S2.new hp (o := .lst [])
  have nQ := (S2.next nP).new hq (o := .tup [x, y, .ref p])
  have pq : p ≠ q := fun z => by rw [← z, upd_same] at hq; cases hq
  have S3 := S2.setIm (i := i) (S1.rp n2 r1)
  have S4 := Stt.setIm (i := j) S3 r2
  obtain ⟨S5, s5⟩ := Stt.newMu (i := l) (ds := []) (xs := []) S4 (nP.trans nQ) (by show l < ((c.γ.set i _).set j _).length; rw [List.length_set, List.length_set]; exact q2.1) hp (by rw [upd_ne pq]; exact upd_same) rfl
  exact ⟨q, [x, y, .ref p], rfl, SqT.of upd_same, rfl, x, _, rfl, y, _, rfl, .ref p, [], rfl, rfl, (L.nxt S (n1.trans n2)).nx (Cfg.mkMu (c.wi ((c.σ.set i (some x)).set j (some y)) ((c.γ.set i (.im a)).set j (.im b))) l p []) _ rfl s5 S5 q2.2⟩
theorem s_asgM3 {X : Cx} {tg ve e f : Expr} {t1 t2 : TE} {w1 w2 : WE} {i j l : Nat} {pos : Pos} (h1 : QE X e t1 w1) (h2 : QE X f t2 w2) (hv : PE X e t1 → PE X f t2 → PE X ve (tTup (tCons t1 (tCons t2 (tCons (tLst tNil) tNil)))))
    (hg : PG X tg (gTup X.K 3 (gCons (gName i) (gCons (gName j) (gCons (gName l) gNil))))) (hs : swapsWithSole [tg] ve pos.line X.env = pure false := by rfl) (hw : swappedStores [tg] ve X.env = pure none := by rfl)
    (h3 : (assignEach [tg] X.env).map (·.2) = [assign tg X.env] := by rfl) : QSt X (.Assign [tg] ve pos) (tAsg (tTup (tCons t1 (tCons t2 (tCons (tLst tNil) tNil)))) (gTup X.K 3 (gCons (gName i) (gCons (gName j) (gCons (gName l) gNil))))) (wParM3 i j l w1 w2) :=
  ⟨ps_asg (hv h1.pe h2.pe) hg hs hw h3, st_asgM3 h1.de h2.de⟩
end DL
/-! DL11 -/
set_option Elab.async false
set_option linter.all false
set_option maxRecDepth 100000
set_option maxHeartbeats 2100000
namespace DL
open PySem PySem.Spec L2 PyProof.Rows
/-! ## xs, ys = [..], [..], by a tuple: both the def's own -/
def wAsgM2 (i j : Nat) (w1 w2 : WL) : WS := fun E γ => w1 γ fun ds => w2 γ fun es => (i < γ.length ∧ j < γ.length) ∧ E.nx ((γ.set i (.mu ds)).set j (.mu es))
theorem st_asgM2 {K : PySem.W.Frag} {t1 t2 : TE} {w1 w2 : WL} {i j : Nat} (h1 : DN K t1 w1) (h2 : DN K t2 w2) : DSt K (tAsg (tTup (tCons t1 (tCons t2 tNil))) (gTup K 2 (gCons (gName i) (gCons (gName j) gNil)))) (wAsgM2 i j w1 w2) := by
  intro c H E D ek S hw L
  subst ek
  refine h1 c H _ _ rfl S hw fun p xs H1 ds hp n1 hx1 r1 q1 => ?_
  have npd : ¬ dks c.J p := fun z => S.dom p (S.dkM p z) hp
  have SP : Stt (c.hide p) H1 := S.hideP n1 hp (by rw [hx1]; simp)
  refine h2 (c.hide p) H1 _ _ rfl SP q1 fun q ys H2 es hq n2 hx2 r2 q2 => ⟨by show 2 ≤ sizeLine; decide, fun T hT => ?_⟩
  have S1 := S.next n1
  have nT := (S1.next n2).new hT (o := .tup [.ref p, .ref q])
  have nqd : ¬ dks c.J q := fun z => SP.dom q (SP.dkM q z) hq
  have hp2 : H2 p = some (.lst xs) := n2.fr p _ npd hx1
  have pT : p ≠ T := ne_of_none hp2 hT
  have qT : q ≠ T := ne_of_none hx2 hT
  obtain ⟨A1, a1⟩ := S.newMu (i := i) n1 q2.1.1 hp hx1 r1
  have n23 : Nxt c.J H1 (upd H2 T (.tup [.ref p, .ref q])) := n2.trans nT
  obtain ⟨A2, a2⟩ := A1.newMu (i := j) (ds := es) (xs := ys) n23 (by show j < (c.γ.set i _).length; rw [List.length_set]; exact q2.1.2) hq (by rw [upd_ne qT]; exact hx2)
    (r2.mono (hid_mono (fun b z => by
      rcases z with z | z
      · rcases mkMu_mt z with z | z
        · rcases z with z | z
          · exact .inl (.inl (.inl z))
          · exact .inl (.inr z)
        · exact .inl (.inl (.inr z))
      · exact .inr z) (Same.upd hT)))
  exact ⟨T, [.ref p, .ref q], rfl, SqT.of upd_same, rfl, .ref p, _, rfl, .ref q, [], rfl, rfl, L.nx ((c.mkMu i p ds).mkMu j q es) _ rfl (a1.trans a2) A2 q2.2⟩
theorem s_asgM2 {X : Cx} {tg ve e f : Expr} {t1 t2 : TE} {w1 w2 : WL} {i j : Nat} {pos : Pos} (h1 : QN X e t1 w1) (h2 : QN X f t2 w2) (hv : PE X e t1 → PE X f t2 → PE X ve (tTup (tCons t1 (tCons t2 tNil))))
    (hg : PG X tg (gTup X.K 2 (gCons (gName i) (gCons (gName j) gNil)))) (hs : swapsWithSole [tg] ve pos.line X.env = pure false := by rfl) (hw : swappedStores [tg] ve X.env = pure none := by rfl)
    (h3 : (assignEach [tg] X.env).map (·.2) = [assign tg X.env] := by rfl) : QSt X (.Assign [tg] ve pos) (tAsg (tTup (tCons t1 (tCons t2 tNil))) (gTup X.K 2 (gCons (gName i) (gCons (gName j) gNil)))) (wAsgM2 i j w1 w2) :=
  ⟨ps_asg (hv h1.pe h2.pe) hg hs hw h3, st_asgM2 h1.dn h2.dn⟩
end DL
/-! DL12 -/
set_option Elab.async false
set_option linter.all false
set_option maxRecDepth 100000
set_option maxHeartbeats 2100000
namespace DL
open PySem PySem.Spec L2 PyProof.Rows
section
variable {X : Cx} {CX : CXT} {k : Nat} {f : Addr} {fd : FuncData} {ps ks : List Str} {sp : Sp} {E : XK} {x : Str} {p pos : Pos} {kws : List Keyword} {tk : TA} {g : List Value → List Value → List Value} {gV : List V → List V → List V}
/-- f(k = v, ..), no positional value -/
theorem pe_callK0 (F : FnOk X.prog X.w X.K X.mg X.base CX k f fd ps sp) (hr : Room k X.A) (hg : Gl X x) (hm : X.mg x = some (.ref f)) (hk : PySem.W.keepIn X.K (.ref f) = true) (hb : KBinds X.K fd ps ks g gV) (hx : Passes CX X E) (hkw : PK X kws tk)
    (hall : (backToKw pos (keywordEach kws X.env)).all (·.1.isSome) = true := by rfl) (hks : (backToKw pos (keywordEach kws X.env)).filterMap (·.1) = ks := by rfl) (hdb : (x == ("__debug__" : Str)) = false := by decide) (hpl : ((backTo pos (starEach [] X.env)).any (·.1) || (backToKw pos (keywordEach kws X.env)).any (·.1.isNone)) = false := by rfl) : PE X (.Call (.Name x p) [] kws pos) (tCallK sp gV E tNil tk) := by
  refine ⟨(fun pins s σ H Q I h => ?_)⟩
  refine (wpAny_Call_Name_kw (ld_glob I hg hm ?_ hdb))
  refine PySem.W.callWith_KW0 (h₀ := X.base) I.ok.mod.kin hk hall (thn (hkw.run pos pins s σ H _ I h) fun ws s2 ⟨zs, H2, I2, rz, q2⟩ => ⟨I2.kIn, ?_⟩) hpl
  rw [hks]
  exact run_fnk F hr hb hx I2 .nil rz q2
end
/-- repr of a tuple -/
theorem cr_reprT {X : Cx} (hg : X.A.guards = some []) (hu : X.A.units + 64 < cLine) : CallR X (.builtin "repr") (fun xs H Q => ∃ (a : Addr) (d : PyData), xs = [.ref a] ∧ Dp X.K H (.ref a) d ∧ d.showable = true ∧ d.hasDict = false ∧ d.depth ≤ 60 ∧ d.shown.length ≤ sizeLine ∧ Q (.str d.shown) H) := by
  intro pins s σ H xs us Q I r; intro h
  obtain ⟨a, d, rfl, hd, hs, hn, hdep, hz, q⟩ := h
  rcases vals1 r with ⟨u, rfl, ru⟩
  cases ru
  obtain ⟨as, rd⟩ := Dp.reads I d (.ref a) (.ref a) hd rfl
  exact repr_of_reads' rd hs (PyData.noDict_hsm hn) hg (by omega) (fun _ _ e => e) (fun h' u tk hk => ⟨.str _, H, I.kept hk, ⟨u, rfl⟩, q⟩) hz
/-- what repr asks of a tuple -/
structure Shw (d : D) : Prop where
  lay : PyData.canLay0 d.py = true
  sh : d.py.showable = true
  nd : d.py.hasDict = false
  dep : d.py.depth ≤ 60
  sz : d.py.shown.length ≤ sizeLine
def wsRepr : List D → (D → Prop) → Prop := fun ds Q => match ds with | [.tup es] => Shw (.tup es) ∧ Q (.str (D.tup es).py.shown) | _ => False
theorem dc_reprT {K : PySem.W.Frag} : DC K (fun xs H Q => ∃ (a : Addr) (d : PyData), xs = [.ref a] ∧ Dp K H (.ref a) d ∧ d.showable = true ∧ d.hasDict = false ∧ d.depth ≤ 60 ∧ d.shown.length ≤ sizeLine ∧ Q (.str d.shown) H) wsRepr := by
  intro c H vs ds Q Qv ek S r hw k
  subst ek
  unfold wsRepr at hw
  split at hw
  · rename_i es
    obtain ⟨h, q⟩ := hw
    obtain ⟨x, rfl, a, xs, rfl, h1, h2⟩ := one_of r
    have rr : Rp c.K c.J (c.cl H) (.tup es) (.ref a) := ⟨a, xs, rfl, h1, h2⟩
    exact ⟨a, (D.tup es).py, rfl, (rp_hid rr).dp h.lay, h.sh, h.nd, h.dep, h.sz, k _ H (.str _) S.nx0 rfl q⟩
  · exact hw.elim
theorem cr_reprB {X : Cx} : CallR X (.builtin "repr") (fun xs H Q => ∃ b : Bool, xs = [.bl b] ∧ Q (.str (if b then "True" else "False")) H) := by
  intro pins s σ H xs us Q I r; intro h
  obtain ⟨b, rfl, q⟩ := h
  rcases vals1 r with ⟨u, rfl, ru⟩
  have e : u = .bool b := ru
  subst e
  exact PySem.P.repr_of_bool ⟨.str _, H, I.tok _, ⟨_, rfl⟩, q⟩
def wsReprB : List D → (D → Prop) → Prop := fun ds Q => match ds with | [.bl b] => Q (.str (if b then "True" else "False")) | _ => False
theorem dc_reprB {K : PySem.W.Frag} : DC K (fun xs H Q => ∃ b : Bool, xs = [.bl b] ∧ Q (.str (if b then "True" else "False")) H) wsReprB := by
  intro c H vs ds Q Qv ek S r hw k
  unfold wsReprB at hw
  split at hw
  · rename_i b
    obtain ⟨x, rfl, h1⟩ := one_of r
    cases h1
    exact ⟨b, rfl, k _ H (.str _) S.nx0 rfl hw⟩
  · exact hw.elim
end DL
/-! DL13 -/
set_option Elab.async false
set_option linter.all false
set_option maxRecDepth 100000
set_option maxHeartbeats 2100000
namespace DL
open PySem PySem.Spec L2 PyProof.Rows
/-! ## calls by keywords alone -/
def gK {α : Type} (pv : List α → List α) : List α → List α → List α | [], zs => pv zs | _ :: _, _ => []
/-- a def of the text, called by the keywords ks alone; pv, pd put the values in the parameters' order -/
structure DefK (P : Program) (w : World) (K : PySem.W.Frag) (mg : Str → Option Value) (base : Heap) (k : Nat) (x : Str) (ps ks : List Str) (sp : Sp) (pv : List V → List V) : Prop where
  ex : ∃ f fd g, FnOk P w K mg base CX0 k f fd ps sp ∧ mg x = some (.ref f) ∧ PySem.W.keepIn K (.ref f) = true ∧ KBinds K fd ps ks g (gK pv)
/-- an order of values, over both layers -/
structure Ord (pv : List V → List V) (pd : List D → List D) : Prop where
  rps : ∀ {K : PySem.W.Frag} {J : JJ} {H : Hp} {ds : List D} {vs : List V}, Rps K J H ds vs → Rps K J H (pd ds) (pv vs)
def sw2 {α : Type} : List α → List α | [a, b] => [b, a] | l => l
def rot3 {α : Type} : List α → List α | [a, b, c] => [c, b, a] | l => l
theorem ord_id : Ord (fun l => l) (fun l => l) := ⟨fun h => h⟩
theorem de_callK {K : PySem.W.Frag} {wd : List D → (D → Prop) → Prop} {tk : TA} {wa : WL} {E : XK} {pv : List V → List V} {pd : List D → List D} (o : Ord pv pd) (h : DA K tk wa) :
    DE K (tCallK (spD K wd) (gK pv) E tNil tk) (wCall wd fun γ Q => wa γ fun ds => Q (pd ds)) := by
  intro c H Q Qv ek S hw k
  subst ek
  refine h c H _ _ rfl S hw fun vs H1 ds n r q => ?_
  have S1 := S.next n
  show spD c.K wd (pv vs) H1 Qv E
  exact ⟨c.J, c.MT, pd ds, _, S1.domT, fun b z => .inl (S1.dkM b z), S1.deck, o.rps r, q, fun v H' d n2 r2 q2 => k v H' d (n.trans n2) r2 q2⟩
theorem q_callK {X : Cx} {k : Nat} {x : Str} {p pos : Pos} {kws : List Keyword} {ps ks : List Str} {tk : TA} {wa : WL} {wd : List D → (D → Prop) → Prop} {pv : List V → List V} {pd : List D → List D} (o : Ord pv pd) (F : DefK X.prog X.w X.K X.mg X.base k x ps ks (spD X.K wd) pv) (hr : Room k X.A) (hg : Gl X x)
    (hk : PK X kws tk) (ha : DA X.K tk wa) (hall : (backToKw pos (keywordEach kws X.env)).all (·.1.isSome) = true := by rfl) (hks : (backToKw pos (keywordEach kws X.env)).filterMap (·.1) = ks := by rfl) (hdb : (x == ("__debug__" : Str)) = false := by decide) (hpl : ((backTo pos (starEach [] X.env)).any (·.1) || (backToKw pos (keywordEach kws X.env)).any (·.1.isNone)) = false := by rfl) : QE X (.Call (.Name x p) [] kws pos) (tCallK (spD X.K wd) (gK pv) E0 tNil tk) (wCall wd fun γ Q => wa γ fun ds => Q (pd ds)) := by
  obtain ⟨f, fd, g, G, hm, hkp, hb⟩ := F.ex
  exact ⟨pe_callK0 G hr hg hm hkp hb pass0 hk hall hks hdb hpl, de_callK o ha⟩
end DL
/-! DL14 -/
set_option Elab.async false
set_option linter.all false
set_option maxRecDepth 100000
set_option maxHeartbeats 2100000
namespace DL
open PySem PySem.Spec L2 PyProof.Rows
/-! ## a slice of the script -/
def wSlScr (w : WE) (lo hi : WO) : WL := fun γ Q => w γ fun d => lo γ fun a => hi γ fun b => match d with | .scr ns => Q (DL.cutD (ns.map D.int) a b) | _ => False
theorem dn_slScr {K : PySem.W.Frag} {te : TE} {w : WE} {tl th : TO} {lo hi : WO} (h : DE K te w) (h1 : DO K tl lo) (h2 : DO K th hi) : DN K (tSl (rSlL K) te tl th) (wSlScr w lo hi) := by
  intro c H Q Qv ek S hw k
  subst ek
  refine h c H _ _ rfl S hw fun v H1 d n1 r1 q1 => ?_
  have S1 := S.next n1
  refine h1 c H1 _ _ rfl S1 q1 fun a H2 n2 q2 => ?_
  have S2 := S1.next n2
  refine h2 c H2 _ _ rfl S2 q2 fun b H3 n3 q3 => ?_
  have S3 := S2.next n3
  have n23 := n2.trans n3
  cases d with
  | scr ns =>
    obtain ⟨p, rfl, hp⟩ := S1.rp n23 r1
    refine ⟨p, _, rfl, hid_same.seq hp, fun l hl => ?_⟩
    have n13 := n1.trans n23
    exact k l _ _ _ (n13.free S hl) (n13.trans (S3.new hl)) upd_same (rps_cut (Rps.ofInts ns)) q3
  | _ => exact q3.elim
theorem n_slScr {X : Cx} {e : Expr} {lo hi : Option Expr} {te : TE} {w1 : WE} {tl th : TO} {wlo whi : WO} {p2 pos : Pos} (h : QE X e te w1) (h1 : QO X lo tl wlo) (h2 : QO X hi th whi) : QN X (.Subscript e (.Slice lo hi none p2) pos) (tSl (rSlL X.K) te tl th) (wSlScr w1 wlo whi) := ⟨pe_slice sl_list h.pe h1.po h2.po, dn_slScr h.de h1.dO h2.dO⟩
end DL
/-! F0 -/
set_option Elab.async false
set_option linter.all false
set_option maxRecDepth 100000
set_option maxHeartbeats 4100000
namespace SP
open PySem PySem.Spec L2 PyProof.Rows DL
/-- the def x of the text as it stands behind the top -/
abbrev FAt (K : PySem.W.Frag) (mg : Str → Option Value) (x : Str) (st : Stmt) : Prop := ∃ f fd, FunD K x x (defArgs st) (defBody st) (defScope st) [] [] f fd ∧ mg x = some (.ref f)
theorem def_of {P : Program} {w : World} {K : PySem.W.Frag} {mg : Str → Option Value} {base : Heap} {k : Nat} {x : Str} {ps : List Str} {sp : Sp} {st : Stmt} (F : FAt K mg x st) (h : ∀ f fd, FunD K x x (defArgs st) (defBody st) (defScope st) [] [] f fd → FnOk P w K mg base CX0 k f fd ps sp)
    (hb : ∀ (kV doc pm : Value) (an : Option Addr) (cdv ct : Value) (us : List Value), us.length = ps.length → bindArgs (PySem.W.fnOf x x (defArgs st) (defBody st) (defScope st) .none kV doc pm an cdv ct) ⟨us, []⟩ = pure (ps.zip us)) : Def P w K mg base k x ps sp := by
  obtain ⟨f, fd, G, hm⟩ := F
  exact ⟨f, fd, h f fd G, hm, G.kp, G.bindsN hb⟩
end SP
/-! F1 -/
set_option Elab.async false
set_option linter.all false
set_option maxRecDepth 100000
set_option maxHeartbeats 4100000
namespace SP
open PySem PySem.Spec L2 PyProof.Rows DL
/-- what a test by decide means -/
theorem ifD {p : Prop} [Decidable p] {A B : Prop} (h1 : p → A) (h2 : ¬ p → B) : if decide p = true then A else B := by
  by_cases h : p
  · rw [if_pos (decide_eq_true h)]; exact h1 h
  · rw [if_neg (by simp [h])]; exact (h2 h)
theorem ifND {p : Prop} [Decidable p] {A B : Prop} (h1 : ¬ p → A) (h2 : p → B) : if (!decide p) = true then A else B := by
  by_cases h : p
  · rw [if_neg (by simp [h])]; exact (h2 h)
  · rw [if_pos (by simp [h])]; exact (h1 h)
/-- a size -/
abbrev Sz (n : Nat) (i : Int) : Prop := i.natAbs < 2 ^ n
theorem mulOk {i j : Int} {a b : Nat} (ha : Sz a i) (hb : Sz b j) (h0 : 0 < a := by decide) (h1 : 0 < b := by decide) (h : a + b ≤ 1000000 := by decide) : CMulW i j := wide_mul ha hb h0 h1 h
theorem divOk {i j : Int} {b : Nat} (h : 0 < j) (hb : Sz b j) (h0 : 0 < b := by decide) (h9 : b ≤ 9000 := by decide) : CDivW i j := wide_div h hb h0 h9
theorem sz_le {a : Nat} {i j : Int} (h : Sz a j) (h2 : i.natAbs ≤ j.natAbs) : Sz a i := Nat.lt_of_le_of_lt h2 h
theorem sz_up {a b : Nat} {i : Int} (h : Sz a i) (hb : a ≤ b) : Sz b i := Nat.lt_of_lt_of_le h (Nat.pow_le_pow_right (by decide) hb)
/-! ### comprehensions over data that is told -/
theorem lcMap {α : Type} {g : WG} {t : WT} {e : WE} {γ0 : Gm} (ι : α → D) (f : α → D) {Q : List D → Prop} : ∀ (xs : List α) (acc : List D), (∀ x ∈ xs, ∀ (R1 : D → Prop) (R2 : Prop), R1 (f x) → g (ι x) γ0 fun γ2 => t γ2 fun b => if b = true then e γ2 R1 else R2) → Q (acc ++ xs.map f) → wLcGo g t e γ0 acc (xs.map ι) Q
  | [], acc, _, hq => by simpa [wLcGo] using hq
  | x :: xs, acc, h, hq => by
    refine h x List.mem_cons_self (fun y => wLcGo g t e γ0 (acc ++ [y]) (xs.map ι) Q) _ ?_
    exact lcMap ι f xs _ (fun z hz => h z (List.mem_cons_of_mem _ hz)) (by simpa [List.append_assoc] using hq)
theorem lcFilt {α : Type} {g : WG} {t : WT} {e : WE} {γ0 : Gm} (ι : α → D) (p : α → Bool) (f : α → D) {Q : List D → Prop} : ∀ (xs : List α) (acc : List D), (∀ x ∈ xs, ∀ (R1 : D → Prop) (R2 : Prop), (p x = true → R1 (f x)) → (p x = false → R2) → g (ι x) γ0 fun γ2 => t γ2 fun b => if b = true then e γ2 R1 else R2) → Q (acc ++ (xs.filter p).map f) → wLcGo g t e γ0 acc (xs.map ι) Q
  | [], acc, _, hq => by simpa [wLcGo] using hq
  | x :: xs, acc, h, hq => by
    refine h x List.mem_cons_self (fun y => wLcGo g t e γ0 (acc ++ [y]) (xs.map ι) Q) _ (fun hp => ?_) (fun hp => ?_)
    · exact lcFilt ι p f xs _ (fun z hz => h z (List.mem_cons_of_mem _ hz)) (by simpa [List.append_assoc, List.filter_cons, hp] using hq)
    · exact lcFilt ι p f xs _ (fun z hz => h z (List.mem_cons_of_mem _ hz)) (by simpa [List.filter_cons, hp] using hq)
abbrev iD (ns : List Int) : List D := ns.map D.int
abbrev tI (ns : List Int) : D := .tup (iD ns)
abbrev zI (p : Int × Int) : D := .tup [.int p.1, .int p.2]
theorem zipI : ∀ xs ys : List Int, List.zipWith (fun a b => D.tup [a, b]) (iD xs) (iD ys) = (xs.zip ys).map zI
  | [], _ => by simp
  | _ :: _, [] => by simp
  | x :: xs, y :: ys => by simp only [iD, List.map_cons, List.zipWith_cons_cons, List.zip_cons_cons]; rw [← zipI xs ys]
theorem few_of {ds : List D} (h : ds.length ≤ 1000) : few ds := Nat.ble_eq_true_of_le h
theorem few_map {α : Type} {f : α → D} {xs : List α} (h : xs.length ≤ 1000) : few (xs.map f) := few_of (by simpa using h)
def dot (a b : List Int) : Int := ((a.zip b).map fun p => p.1 * p.2).sum
def addmul (a : List Int) (k : Int) (b : List Int) : List Int := (a.zip b).map fun p => p.1 + k * p.2
section
variable {base : Heap} {P : Program} {w : World} {K : PySem.W.Frag} {mg : Str → Option Value}
abbrev s_is_integer : Stmt := top 12
abbrev N_is_integer : List Str := ["thing"]
theorem sc_is_integer : FnScope N_is_integer ["thing"] (defScope s_is_integer) := ⟨rfl, rfl, rfl, by decide +kernel, rfl, by decide +kernel, by decide +kernel⟩

def wd_is_integer : List D → (D → Prop) → Prop := fun ds Q => ∃ i : Int, ds = [.int i] ∧ Q (.bl true)
theorem ok_is_integer (T : Txt mg) (F : FAt K mg "is_integer" s_is_integer) : Def P w K mg base 1 "is_integer" ["thing"] (spD K wd_is_integer) := by
  refine def_of F (fun f fd G => fn_D G sc_is_integer (fun ds Q h => ?_) (fun cdv A outer s H E hr ds Q h => ?_)) (fun _ _ _ _ _ _ us hl => match us, hl with | [_], _ => rfl)
  · obtain ⟨i, rfl, _⟩ := h; rfl
  · obtain ⟨i, rfl, hq⟩ := h
    have nd := sc_is_integer.nd
    refine ⟨_, _, (ss_one (s_ret (q_and (q_isi (T' := "int") (by rfl) T.n_isinstance (by rfl) T.n_int (qv 0)) (q_one (q_not (q_isi (T' := "bool") (by rfl) T.n_isinstance (by rfl) T.n_bool (qv 0))))))), ?_⟩
    exact hq
abbrev s_inverse_of : Stmt := top 14
abbrev N_inverse_of : List Str := ["number", "modulus", "one", "other", "left", "right", "many"]
theorem sc_inverse_of : FnScope N_inverse_of ["number", "modulus"] (defScope s_inverse_of) := ⟨rfl, rfl, rfl, by decide +kernel, rfl, by decide +kernel, by decide +kernel⟩

def wd_inverse_of : List D → (D → Prop) → Prop := fun ds Q => ∃ a m : Int, ds = [.int a, .int m] ∧ 0 < m ∧ Sz 900 m ∧ ∀ r, 0 ≤ r → r < m → (NT.Cop a m → m ∣ a * r - 1) → Q (.int r)
theorem ok_inverse_of (T : Txt mg) (F : FAt K mg "inverse_of" s_inverse_of) : Def P w K mg base 1 "inverse_of" ["number", "modulus"] (spD K wd_inverse_of) := by
  refine def_of F (fun f fd G => fn_D G sc_inverse_of (fun ds Q h => ?_) (fun cdv A outer s H E hr ds Q h => ?_)) (fun _ _ _ _ _ _ us hl => match us, hl with | [_, _], _ => rfl)
  · obtain ⟨a, m, rfl, _⟩ := h; rfl
  · obtain ⟨a, m, rfl, hm, hs, hq⟩ := h
    have nd := sc_inverse_of.nd
    refine ⟨_, _, (ss_cons (s_asg (q_tup (qa_cons (qv 1) (qa_cons (q_mod (qv 0) (qv 1)) (qa_cons q_int (qa_cons q_int qa_nil))))) (g_tup rfl (gs_cons (g_name (i := 2) nd rfl (Or.inl rfl)) (gs_cons (g_name (i := 3) nd rfl (Or.inl rfl)) (gs_cons (g_name (i := 4) nd rfl (Or.inl rfl)) (gs_cons (g_name (i := 5) nd rfl (Or.inl rfl)) gs_nil))))))
    (ss_cons (s_while PassesOwn.never (t_ne (qv 3) q_int) (ss_cons (s_set (i := 6) nd rfl (Or.inl rfl) (q_div (qv 2) (qv 3)))
    (ss_cons (s_par (i := 2) (j := 3) rfl nd rfl rfl (by decide) rfl rfl (qa_cons (qv 3) (qa_cons (q_sub (qv 2) (q_mul (qv 6) (qv 3))) qa_nil)) rfl)
    (ss_one (s_par (i := 4) (j := 5) rfl nd rfl rfl (by decide) rfl rfl (qa_cons (qv 5) (qa_cons (q_sub (qv 4) (q_mul (qv 6) (qv 5))) qa_nil)) rfl)))))
    (ss_one (s_ret (q_mod (qv 4) (qv 1)))))), ?_⟩
    refine ⟨hm, rfl, ?_⟩
    refine ⟨fun γ => ∃ one other l r x, γ = [.im (.int a), .im (.int m), .im (.int one), .im (.int other), .im (.int l), .im (.int r), x] ∧ NT.EInv a m one other l r, fun γ => match γ with | [_, _, _, .im (.int o), _, _, _] => o.toNat | _ => 0, ⟨m, a % m, 0, 1, .un, rfl, NT.einv_start hm⟩, ?_⟩
    rintro γ ⟨one, other, l, r, x, rfl, I⟩
    refine ifND (fun hz => ?_) (fun hz => ?_)
    · have h0 := I.o0; have h1 := I.o1; have h2 := I.om
      have so : Sz 900 other := sz_le hs (by omega)
      have hq0 : 0 ≤ one / other := Int.ediv_nonneg (by omega) h0
      have hqm : one / other ≤ one := Int.ediv_le_self _ (by omega)
      have sq : Sz 900 (one / other) := sz_le hs (by omega)
      have sr : Sz 900 r := sz_le hs (by have := NT.einv_size I; omega)
      refine ⟨divOk (by omega) so, mulOk sq so, mulOk sq sr, ?_⟩
      have I' := NT.einv_step I hz
      exact ⟨⟨_, _, _, _, _, rfl, I'⟩, by have := I'.o1; have := I'.o0; show (one - one / other * other).toNat < other.toNat; omega⟩
    · subst hz
      exact ⟨hm, hq _ (Int.emod_nonneg _ (by omega)) (Int.emod_lt_of_pos _ hm) fun hc => NT.einv_end I hm hc⟩
abbrev s_are_integers : Stmt := top 13
abbrev N_are_integers : List Str := ["thing", "item"]
theorem sc_are_integers : FnScope N_are_integers ["thing"] (defScope s_are_integers) := ⟨rfl, rfl, rfl, by decide +kernel, rfl, by decide +kernel, by decide +kernel⟩

def wd_are_integers : List D → (D → Prop) → Prop := fun ds Q => ∃ ns : List Int, ds = [tI ns] ∧ ns.length ≤ 1000 ∧ Q (.bl true)
theorem ok_are_integers (T : Txt mg) (F : FAt K mg "are_integers" s_are_integers) (D_is_integer : Def P w K mg base 1 "is_integer" ["thing"] (spD K wd_is_integer)) : Def P w K mg base 2 "are_integers" ["thing"] (spD K wd_are_integers) := by
  refine def_of F (fun f fd G => fn_D G sc_are_integers (fun ds Q h => ?_) (fun cdv A outer s H E hr ds Q h => ?_)) (fun _ _ _ _ _ _ us hl => match us, hl with | [_], _ => rfl)
  · obtain ⟨i, rfl, _⟩ := h; rfl
  · obtain ⟨ns, rfl, hl, hq⟩ := h
    have nd := sc_are_integers.nd
    refine ⟨_, _, (ss_one (s_ret (q_and (q_isi (T' := "tuple") (by rfl) T.n_isinstance (by rfl) T.n_tuple (qv 0)) (q_one (q_cbl (cr_all rfl) dc_all (by rfl) T.n_all (QN.s (n_lc (own := [("item", 1)]) rfl nd (QI.c (i_tup (qv 0))) (blkOk_by (N := N_are_integers) (sc := defScope s_are_integers) (by decide +kernel)) (fun _ _ _ _ _ => (g_name (i := 1) nd rfl (Or.inl rfl))) (fun _ _ _ _ _ => ts_nil) (fun _ _ _ _ _ => (q_call D_is_integer (hr.mono (by decide)) (by rfl) (qa_cons (qv 1) qa_nil))) (by decide)))))))), ?_⟩
    refine ⟨few_map hl, lcMap D.int (fun _ => .bl true) ns [] (fun x hx R1 R2 h1 => ⟨x, rfl, h1⟩) ⟨ns.map fun _ => true, by simp, ?_⟩⟩
    have e : (ns.map fun _ => true).all id = true := by simp
    rw [e]; exact hq
abbrev s_is_cell_row : Stmt := top 18
abbrev N_is_cell_row : List Str := ["thing"]
theorem sc_is_cell_row : FnScope N_is_cell_row ["thing"] (defScope s_is_cell_row) := ⟨rfl, rfl, rfl, by decide +kernel, rfl, by decide +kernel, by decide +kernel⟩

def wd_is_cell_row : List D → (D → Prop) → Prop := fun ds Q => ∃ ns : List Int, ds = [tI ns] ∧ 1 ≤ ns.length ∧ ns.length ≤ 3 ∧ Q (.bl true)
theorem ok_is_cell_row (T : Txt mg) (F : FAt K mg "is_cell_row" s_is_cell_row) (D_are_integers : Def P w K mg base 2 "are_integers" ["thing"] (spD K wd_are_integers)) : Def P w K mg base 3 "is_cell_row" ["thing"] (spD K wd_is_cell_row) := by
  refine def_of F (fun f fd G => fn_D G sc_is_cell_row (fun ds Q h => ?_) (fun cdv A outer s H E hr ds Q h => ?_)) (fun _ _ _ _ _ _ us hl => match us, hl with | [_], _ => rfl)
  · obtain ⟨i, rfl, _⟩ := h; rfl
  · obtain ⟨ns, rfl, h1, h3, hq⟩ := h
    have nd := sc_is_cell_row.nd
    refine ⟨_, _, (ss_one (s_ret (q_and (q_call D_are_integers (hr.mono (by decide)) (by rfl) (qa_cons (qv 0) qa_nil)) (q_one (q_chain_le_le q_int (q_cb call_len_seq dc_lenT (by rfl) T.n_len (qa_cons (qv 0) qa_nil)) (q_gint (by rfl) T.g_MOST_BREADTH)))))), ?_⟩
    refine ⟨ns, rfl, by omega, ?_⟩
    have e1 : decide ((1 : Int) ≤ ((iD ns).length : Int)) = true := decide_eq_true (by rw [List.length_map]; omega)
    have e2 : decide (((iD ns).length : Int) ≤ (3 : Int)) = true := decide_eq_true (by rw [List.length_map]; omega)
    show if decide ((1 : Int) ≤ ((iD ns).length : Int)) = true then Q (.bl (decide (((iD ns).length : Int) ≤ (3 : Int)))) else _
    rw [if_pos e1, e2]; exact hq
abbrev s_is_cell_of : Stmt := top 19
abbrev N_is_cell_of : List Str := ["thing", "breadth"]
theorem sc_is_cell_of : FnScope N_is_cell_of ["thing", "breadth"] (defScope s_is_cell_of) := ⟨rfl, rfl, rfl, by decide +kernel, rfl, by decide +kernel, by decide +kernel⟩

def wd_is_cell_of : List D → (D → Prop) → Prop := fun ds Q => ∃ ns : List Int, ds = [tI ns, .int ns.length] ∧ 1 ≤ ns.length ∧ ns.length ≤ 3 ∧ Q (.bl true)
theorem ok_is_cell_of (T : Txt mg) (F : FAt K mg "is_cell_of" s_is_cell_of) (D_is_cell_row : Def P w K mg base 3 "is_cell_row" ["thing"] (spD K wd_is_cell_row)) : Def P w K mg base 4 "is_cell_of" ["thing", "breadth"] (spD K wd_is_cell_of) := by
  refine def_of F (fun f fd G => fn_D G sc_is_cell_of (fun ds Q h => ?_) (fun cdv A outer s H E hr ds Q h => ?_)) (fun _ _ _ _ _ _ us hl => match us, hl with | [_, _], _ => rfl)
  · obtain ⟨i, rfl, _⟩ := h; rfl
  · obtain ⟨ns, rfl, h1, h3, hq⟩ := h
    have nd := sc_is_cell_of.nd
    refine ⟨_, _, (ss_one (s_ret (q_and (q_call D_is_cell_row (hr.mono (by decide)) (by rfl) (qa_cons (qv 0) qa_nil)) (q_one (q_or (q_isN (qv 1)) (q_one (q_eq (q_cb call_len_seq dc_lenT (by rfl) T.n_len (qa_cons (qv 0) qa_nil)) (qv 1)))))))), ?_⟩
    refine ⟨ns, rfl, h1, h3, ?_⟩
    show Q (.bl (decide (((iD ns).length : Int) = (ns.length : Int))))
    rw [decide_eq_true (by rw [List.length_map])]; exact hq
abbrev s_product_at : Stmt := top 20
abbrev N_product_at : List Str := ["row", "cell", "one", "other"]
theorem sc_product_at : FnScope N_product_at ["row", "cell"] (defScope s_product_at) := ⟨rfl, rfl, rfl, by decide +kernel, rfl, by decide +kernel, by decide +kernel⟩

def wd_product_at : List D → (D → Prop) → Prop := fun ds Q => ∃ xs ys : List Int, ds = [tI xs, tI ys] ∧ xs.length ≤ 12 ∧ (∀ x ∈ xs, Sz 6000 x) ∧ (∀ y ∈ ys, Sz 6000 y) ∧ Q (.int (dot xs ys))
theorem ok_product_at (T : Txt mg) (F : FAt K mg "product_at" s_product_at) : Def P w K mg base 1 "product_at" ["row", "cell"] (spD K wd_product_at) := by
  refine def_of F (fun f fd G => fn_D G sc_product_at (fun ds Q h => ?_) (fun cdv A outer s H E hr ds Q h => ?_)) (fun _ _ _ _ _ _ us hl => match us, hl with | [_, _], _ => rfl)
  · obtain ⟨xs, ys, rfl, _⟩ := h; rfl
  · obtain ⟨xs, ys, rfl, hl, hx, hy, hq⟩ := h
    have nd := sc_product_at.nd
    refine ⟨_, _, (ss_one (s_ret (q_cbl (cr_sum rfl) dc_sum (by rfl) T.n_sum (QN.s (n_lc (own := [("one", 2), ("other", 3)]) rfl nd (QI.c (i_zip (by rfl) T.n_zip (qa_cons (qv 0) (qa_cons (qv 1) qa_nil)))) (blkOk_by (N := N_product_at) (sc := defScope s_product_at) (by decide +kernel)) (fun _ _ _ _ _ => (g_tup rfl (gs_cons (g_name (i := 2) nd rfl (Or.inl rfl)) (gs_cons (g_name (i := 3) nd rfl (Or.inl rfl)) gs_nil)))) (fun _ _ _ _ _ => ts_nil) (fun _ _ _ _ _ => (q_mul (qv 2) (qv 3))) (by decide)))))), ?_⟩
    have e := zipI xs ys
    show few (List.zipWith (fun a b => D.tup [a, b]) (iD xs) (iD ys)) ∧ _
    rw [e]
    refine ⟨few_map (by rw [List.length_zip]; omega), lcMap zI (fun p => .int (p.1 * p.2)) (xs.zip ys) [] (fun p hp R1 R2 h1 => ?_) ⟨(xs.zip ys).map fun p : Int × Int => p.1 * p.2, by simp, hq⟩⟩
    exact ⟨mulOk (hx _ (List.of_mem_zip hp).1) (hy _ (List.of_mem_zip hp).2), h1⟩
abbrev s_rests_by : Stmt := top 22
abbrev N_rests_by : List Str := ["row", "modulus", "number"]
theorem sc_rests_by : FnScope N_rests_by ["row", "modulus"] (defScope s_rests_by) := ⟨rfl, rfl, rfl, by decide +kernel, rfl, by decide +kernel, by decide +kernel⟩

def wd_rests_by : List D → (D → Prop) → Prop := fun ds Q => ∃ (xs : List Int) (m : Int), (ds = [tI xs, .int m] ∨ ds = [.lst (iD xs), .int m]) ∧ xs.length ≤ 12 ∧ 0 < m ∧ Q (tI (xs.map (· % m)))
theorem ok_rests_by (T : Txt mg) (F : FAt K mg "rests_by" s_rests_by) : Def P w K mg base 1 "rests_by" ["row", "modulus"] (spD K wd_rests_by) := by
  refine def_of F (fun f fd G => fn_D G sc_rests_by (fun ds Q h => ?_) (fun cdv A outer s H E hr ds Q h => ?_)) (fun _ _ _ _ _ _ us hl => match us, hl with | [_, _], _ => rfl)
  · obtain ⟨xs, m, e | e, _⟩ := h <;> rw [e] <;> rfl
  · obtain ⟨xs, m, e, hl, hm, hq⟩ := h
    have nd := sc_rests_by.nd
    have hq' : Q (.tup ([] ++ xs.map fun x => .int (x % m))) := by
      have : ([] ++ xs.map fun x => D.int (x % m)) = iD (xs.map (· % m)) := by simp [iD, List.map_map, Function.comp_def]
      rw [this]; exact hq
    rcases e with rfl | rfl
    · refine ⟨_, _, (ss_one (s_ret (q_ctl call_tuple_of dc_tupL (by rfl) T.n_tuple (QN.s (n_lc (own := [("number", 2)]) rfl nd (QI.c (i_tup (qv 0))) (blkOk_by (N := N_rests_by) (sc := defScope s_rests_by) (by decide +kernel)) (fun _ _ _ _ _ => (g_name (i := 2) nd rfl (Or.inl rfl))) (fun _ _ _ _ _ => ts_nil) (fun _ _ _ _ _ => (q_mod (qv 2) (qv 1))) (by decide)))))), ?_⟩
      exact ⟨few_map (by omega), lcMap D.int (fun x => .int (x % m)) xs [] (fun x hx R1 R2 h1 => ⟨hm, h1⟩) hq'⟩
    · refine ⟨_, _, (ss_one (s_ret (q_ctl call_tuple_of dc_tupL (by rfl) T.n_tuple (QN.s (n_lc (own := [("number", 2)]) rfl nd (ic_list (qvl 0)) (blkOk_by (N := N_rests_by) (sc := defScope s_rests_by) (by decide +kernel)) (fun _ _ _ _ _ => (g_name (i := 2) nd rfl (Or.inl rfl))) (fun _ _ _ _ _ => ts_nil) (fun _ _ _ _ _ => (q_mod (qv 2) (qv 1))) (by decide)))))), ?_⟩
      exact ⟨few_map (by omega), lcMap D.int (fun x => .int (x % m)) xs [] (fun x hx R1 R2 h1 => ⟨hm, h1⟩) hq'⟩
abbrev s_lowest : Stmt := top 36
abbrev N_lowest : List Str := ["top", "bottom", "common"]
theorem sc_lowest : FnScope N_lowest ["top", "bottom"] (defScope s_lowest) := ⟨rfl, rfl, rfl, by decide +kernel, rfl, by decide +kernel, by decide +kernel⟩

def wd_lowest : List D → (D → Prop) → Prop := fun ds Q => ∃ a b : Int, ds = [.int a, .int b] ∧ 0 < b ∧ Sz 8000 b ∧ Q (.tup [.int (a / NT.gcd a b), .int (b / NT.gcd a b)])
theorem ok_lowest (T : Txt mg) (F : FAt K mg "lowest" s_lowest) : Def P w K mg base 1 "lowest" ["top", "bottom"] (spD K wd_lowest) := by
  refine def_of F (fun f fd G => fn_D G sc_lowest (fun ds Q h => ?_) (fun cdv A outer s H E hr ds Q h => ?_)) (fun _ _ _ _ _ _ us hl => match us, hl with | [_, _], _ => rfl)
  · obtain ⟨a, b, rfl, _⟩ := h; rfl
  · obtain ⟨a, b, rfl, hb, sb, hq⟩ := h
    have nd := sc_lowest.nd
    refine ⟨_, _, (ss_cons (s_set (i := 2) nd rfl (Or.inl rfl) (q_gcd (by rfl) T.g_gcd (qa_cons (qv 0) (qa_cons (qv 1) qa_nil))))
    (ss_one (s_ret (q_tup (qa_cons (q_div (qv 0) (qv 2)) (qa_cons (q_div (qv 1) (qv 2)) qa_nil)))))), ?_⟩
    have h0 : 0 < NT.gcd a b := NT.gcd_pos (by omega)
    have h1 : NT.gcd a b ≤ b := Int.le_of_dvd hb (NT.gcd_dr a b)
    have sg : Sz 8000 (NT.gcd a b) := sz_le sb (by omega)
    exact ⟨divOk h0 sg, divOk h0 sg, rfl, hq⟩

end
end SP
/-! F2 -/
set_option Elab.async false
set_option linter.all false
set_option maxRecDepth 100000
set_option maxHeartbeats 4100000
namespace SP
open PySem PySem.Spec L2 PyProof.Rows DL
theorem kpow_test {k : Nat} {j : Nat} {R : Int} (hR : ¬ (k : Int) ∣ R) : ((k : Int) ^ j * R % (k : Int) = 0) ↔ 0 < j := by
  rw [NT.mod_eq_zero]
  cases j with
  | zero => simp [hR]
  | succ n => exact ⟨fun _ => by omega, fun _ => ⟨(k : Int) ^ n * R, by rw [Int.pow_succ]; grind⟩⟩
theorem kpow_step {k : Nat} {j : Nat} {R : Int} (hk : 0 < k) : (k : Int) ^ (j + 1) * R / (k : Int) = (k : Int) ^ j * R := by
  have e : (k : Int) ^ (j + 1) * R = (k : Int) * ((k : Int) ^ j * R) := by rw [Int.pow_succ]; grind
  rw [e]
  exact Int.mul_ediv_cancel_left _ (by omega)
theorem pr_ge_le (e : Nat → Nat) {k : Nat} (hk : k ≤ 30) : NT.pr e (NT.ge k) ≤ NT.pr e NT.PL := by
  have e1 : NT.pr e NT.PL = NT.pr e (NT.lt k) * NT.pr e (NT.ge k) := by
    rw [← NT.lt_ge k hk]
    unfold NT.pr
    rw [List.map_append, NT.prod_app]
  have h1 : 0 < NT.pr e (NT.lt k) := NT.pr_pos e fun p hp => (List.mem_filter.mp hp).1
  have h2 : 0 < NT.pr e (NT.ge k) := NT.pr_pos e fun p hp => NT.ge_sub hp
  rw [e1]
  have := Int.mul_le_mul_of_nonneg_right (a := 1) (b := NT.pr e (NT.lt k)) (c := NT.pr e (NT.ge k)) (by omega) (by omega)
  omega
theorem kpow_le {e : Nat → Nat} {k j : Nat} (h2 : 2 ≤ k) (hk : k < 30) (hj : j ≤ NT.ex e k) : (k : Int) ^ j * NT.pr e (NT.ge (k + 1)) ≤ NT.pr e NT.PL ∧ (k : Int) ^ j ≤ NT.pr e NT.PL ∧ 0 < (k : Int) ^ j * NT.pr e (NT.ge (k + 1)) ∧ 0 < (k : Int) ^ j := by
  have h0 := NT.pow_pos (p := k) (by omega) j
  have hR : 0 < NT.pr e (NT.ge (k + 1)) := NT.pr_pos e fun p hp => NT.ge_sub hp
  have h1 : (k : Int) ^ j ≤ (k : Int) ^ NT.ex e k := Int.le_of_dvd (NT.pow_pos (by omega) _) (NT.pow_dvd hj)
  have h3 := pr_ge_le e (k := k) (by omega)
  rw [NT.pr_step e k hk] at h3
  have h4 := Int.mul_le_mul_of_nonneg_right h1 (by omega : 0 ≤ NT.pr e (NT.ge (k + 1)))
  have h5 := Int.mul_le_mul_of_nonneg_left (a := 1) (b := NT.pr e (NT.ge (k + 1))) (c := (k : Int) ^ j) (by omega) (by omega)
  have h6 := Int.mul_pos h0 hR
  exact ⟨by omega, by omega, h6, h0⟩
theorem facs_len (e : Nat → Nat) (L : List Nat) : (NT.facs e L).length ≤ L.length := by
  unfold NT.facs
  rw [List.length_map]; exact List.length_filter_le ..
theorem ge_one {e : Nat → Nat} {k : Nat} (h : ¬ 1 < NT.pr e (NT.ge k)) (hk : k ≤ 30) : NT.facs e NT.PL = NT.facs e (NT.lt k) := by
  have h0 : 0 < NT.pr e (NT.ge k) := NT.pr_pos e fun p hp => NT.ge_sub hp
  have h1 : NT.pr e (NT.ge k) = 1 := by omega
  have h2 := NT.facs_none e (NT.pr_one e (fun p hp => NT.ge_sub hp) h1)
  rw [← NT.lt_ge k hk, NT.facs_app, h2, List.append_nil]
section
variable {base : Heap} {P : Program} {w : World} {K : PySem.W.Frag} {mg : Str → Option Value}
abbrev s_powers_of : Stmt := top 16
abbrev N_powers_of : List Str := ["period", "found", "left", "prime", "power"]
theorem sc_powers_of : FnScope N_powers_of ["period"] (defScope s_powers_of) := ⟨rfl, rfl, rfl, by decide +kernel, rfl, by decide +kernel, by decide +kernel⟩

def wd_powers_of : List D → (D → Prop) → Prop := fun ds Q => ∃ e : Nat → Nat, ds = [.int (NT.pr e NT.PL)] ∧ Sz 140 (NT.pr e NT.PL) ∧ Q (.lst ((NT.facs e NT.PL).map zI))
theorem ok_powers_of (T : Txt mg) (F : FAt K mg "powers_of" s_powers_of) : Def P w K mg base 1 "powers_of" ["period"] (spD K wd_powers_of) := by
  refine def_of F (fun f fd G => fn_D G sc_powers_of (fun ds Q h => ?_) (fun cdv A outer s H E hr ds Q h => ?_)) (fun _ _ _ _ _ _ us hl => match us, hl with | [_], _ => rfl)
  · obtain ⟨e, rfl, _⟩ := h; rfl
  · obtain ⟨e, rfl, hs, hq⟩ := h
    have nd := sc_powers_of.nd
    refine ⟨_, _, (ss_cons (s_parM1 (i := 1) (j := 2) (l := 3) rfl nd rfl rfl rfl (by decide) (by decide) (by decide) rfl rfl rfl (qv 0) q_int (fun h => ps_par3 rfl nd rfl rfl rfl (by decide) (by decide) (by decide) rfl rfl rfl h rfl))
    (ss_cons (s_while PassesOwn.never (t_gt (qv 2) q_int) (ss_cons (s_set (i := 4) nd rfl (Or.inl rfl) q_int)
    (ss_cons (s_while PassesOwn.never (t_eq (q_mod (qv 2) (qv 3)) q_int) (ss_cons (s_set (i := 2) nd rfl (Or.inl rfl) (q_div (qv 2) (qv 3)))
    (ss_one (s_set (i := 4) nd rfl (Or.inl rfl) (q_mul (qv 4) (qv 3))))))
    (ss_cons (s_if (t_gt (qv 4) q_int) (ss_one (s_app 1 (qv 1) (q_tup (qa_cons (qv 3) (qa_cons (qv 4) qa_nil))) (pe_bm PySem.F.plainAttrs_list PySem.F.slot_list_append PySem.F.type_list_append mt_append (pv 1) (pa_cons (q_tup (qa_cons (qv 3) (qa_cons (qv 4) qa_nil))).pe pa_nil)))) ss_nil)
    (ss_one (s_aug (i := 3) nd rfl (Or.inl rfl) q_int))))))
    (ss_one (s_retM 1 (qv 1))))), ?_⟩
    refine ⟨by show 1 < 5; decide, ?_⟩
    refine ⟨fun γ => ∃ (k : Nat) (x : Slot), 2 ≤ k ∧ k ≤ 30 ∧ γ = [.im (.int (NT.pr e NT.PL)), .mu ((NT.facs e (NT.lt k)).map zI), .im (.int (NT.pr e (NT.ge k))), .im (.int k), x],
      fun γ => match γ with | [_, _, _, .im (.int k), _] => (30 - k).toNat | _ => 0, ⟨2, .un, by decide, by decide, ?_⟩, ?_⟩
    · rw [NT.ge_start]; rfl
    rintro γ ⟨k, x, h2, h30, rfl⟩
    refine ifD (fun hgt => ?_) (fun hgt => ?_)
    · have hk : k < 30 := by
        rcases Nat.lt_or_ge k 30 with h | h
        · exact h
        · have : k = 30 := by omega
          subst this
          rw [NT.ge_end, NT.pr_nil] at hgt
          omega
      refine ⟨fun γ => ∃ j : Nat, j ≤ NT.ex e k ∧ γ = [.im (.int (NT.pr e NT.PL)), .mu ((NT.facs e (NT.lt k)).map zI), .im (.int ((k : Int) ^ j * NT.pr e (NT.ge (k + 1)))), .im (.int k), .im (.int ((k : Int) ^ (NT.ex e k - j)))],
        fun γ => match γ with | [_, _, .im (.int l), _, _] => l.toNat | _ => 0, ⟨NT.ex e k, Nat.le_refl _, ?_⟩, ?_⟩
      · rw [NT.pr_step e k hk, Nat.sub_self, Int.pow_zero]; rfl
      rintro γ ⟨j, hj, rfl⟩
      have hR := NT.not_left e h2 hk
      obtain ⟨b1, b2, b3, b4⟩ := kpow_le (e := e) h2 hk hj
      refine ⟨by omega, ifD (fun ht => ?_) (fun ht => ?_)⟩
      · obtain ⟨n, rfl⟩ : ∃ n, j = n + 1 := ⟨j - 1, by have := (kpow_test hR).mp ht; omega⟩
        obtain ⟨c1, c2, c3, c4⟩ := kpow_le (e := e) h2 hk (j := n) (by omega)
        obtain ⟨d1, d2, d3, d4⟩ := kpow_le (e := e) h2 hk (j := NT.ex e k - (n + 1)) (by omega)
        refine ⟨⟨by omega, by show ((k : Int)).natAbs.log2 < 9000; rw [Int.natAbs_natCast]; exact Nat.lt_of_le_of_lt (Nat.log2_le_self k) (by omega)⟩, mulOk (a := 140) (b := 140) (sz_le hs (by omega)) (by show ((k : Int)).natAbs < 2 ^ 140; rw [Int.natAbs_natCast]; exact Nat.lt_of_lt_of_le hk (by decide)), ?_⟩
        rw [kpow_step (by omega)]
        refine ⟨⟨n, by omega, ?_⟩, ?_⟩
        · have e1 : (k : Int) ^ (NT.ex e k - (n + 1)) * (k : Int) = (k : Int) ^ (NT.ex e k - n) := by
            rw [← Int.pow_succ]
            congr 1
            omega
          rw [e1]; rfl
        · show ((k : Int) ^ n * NT.pr e (NT.ge (k + 1))).toNat < ((k : Int) ^ (n + 1) * NT.pr e (NT.ge (k + 1))).toNat
          have e2 : (k : Int) ^ (n + 1) * NT.pr e (NT.ge (k + 1)) = (k : Int) * ((k : Int) ^ n * NT.pr e (NT.ge (k + 1))) := by rw [Int.pow_succ]; grind
          have e3 : 2 * ((k : Int) ^ n * NT.pr e (NT.ge (k + 1))) ≤ (k : Int) * ((k : Int) ^ n * NT.pr e (NT.ge (k + 1))) := Int.mul_le_mul_of_nonneg_right (by omega) (by omega)
          rw [e2]; omega
      · have h0 : j = 0 := by
          rcases Nat.eq_zero_or_pos j with h | h
          · exact h
          · exact absurd ((kpow_test hR).mpr h) ht
        subst h0
        have hfs := NT.facs_step e k hk h2
        have hlen : (NT.facs e (NT.lt k)).length ≤ 10 := Nat.le_trans (facs_len e _) (List.length_filter_le ..)
        have hgo : ∀ ds : List D, ds = (NT.facs e (NT.lt (k + 1))).map zI → (∃ (k' : Nat) (x : Slot), 2 ≤ k' ∧ k' ≤ 30 ∧ ([.im (.int (NT.pr e NT.PL)), .mu ds, .im (.int ((k : Int) ^ 0 * NT.pr e (NT.ge (k + 1)))), .im (.int ((k : Int) + 1)), .im (.int ((k : Int) ^ (NT.ex e k - 0)))] : Gm) = [.im (.int (NT.pr e NT.PL)), .mu ((NT.facs e (NT.lt k')).map zI), .im (.int (NT.pr e (NT.ge k'))), .im (.int k'), x]) := by
          intro ds hds
          refine ⟨k + 1, .im (.int ((k : Int) ^ (NT.ex e k - 0))), by omega, by omega, ?_⟩
          rw [hds, Int.pow_zero, Int.one_mul]
          rfl
        have hmu : (30 - ((k : Int) + 1)).toNat < (30 - (k : Int)).toNat := by omega
        refine ifD (fun hp => ?_) (fun hp => ?_)
        · refine ⟨rfl, few_map (by omega), hgo _ ?_, hmu⟩
          have hp' : 1 < (k : Int) ^ NT.ex e k := hp
          rw [hfs, if_pos hp', List.map_append]; rfl
        · refine ⟨hgo _ ?_, hmu⟩
          have hp' : ¬ 1 < (k : Int) ^ NT.ex e k := hp
          rw [hfs, if_neg hp', List.append_nil]
    · show Q (.lst ((NT.facs e (NT.lt k)).map zI))
      rw [← ge_one hgt h30]; exact hq
end
end SP
/-! F3 -/
set_option Elab.async false
set_option linter.all false
set_option maxRecDepth 100000
set_option maxHeartbeats 4100000
namespace SP
open PySem PySem.Spec L2 PyProof.Rows DL
/-! ### loops with an invariant -/
theorem forInv {α : Type} {g : WG} {tb : WS} {E : DEnds} (ι : α → D) (Pv : List α → Gm → Prop) (fin : ∀ γ, Pv [] γ → E.nx γ)
    (step : ∀ x xs γ, Pv (x :: xs) γ → ∀ N : Gm → Prop, (∀ γ2, Pv xs γ2 → N γ2) → g (ι x) γ fun γ2 => tb { E with nx := N, ct := N, bk := E.nx } γ2) : ∀ (xs : List α) (γ : Gm), Pv xs γ → wForGo g tb E (xs.map ι) γ
  | [], γ, h => fin γ h
  | x :: xs, γ, h => step x xs γ h _ fun γ2 h2 => forInv ι Pv fin step xs γ2 h2
theorem forRange {g : WG} {tb : WS} {E : DEnds} (ι : Nat → D) (n : Nat) (Pv : Nat → Gm → Prop) (fin : ∀ γ, Pv n γ → E.nx γ)
    (step : ∀ i γ, i < n → Pv i γ → ∀ N : Gm → Prop, (∀ γ2, Pv (i + 1) γ2 → N γ2) → g (ι i) γ fun γ2 => tb { E with nx := N, ct := N, bk := E.nx } γ2) {γ : Gm} (h : Pv 0 γ) : wForGo g tb E ((List.range n).map ι) γ := by
  rw [List.range_eq_range']
  refine forInv ι (fun xs γ => ∃ i, i ≤ n ∧ xs = List.range' i (n - i) ∧ Pv i γ) (fun γ2 h2 => ?_) (fun x xs γ2 h2 N hN => ?_) _ γ ⟨0, by omega, by simp, h⟩
  · obtain ⟨i, hi, e, h3⟩ := h2
    have : i = n := by
      have := congrArg List.length e
      simp at this
      omega
    subst this
    exact fin _ h3
  · obtain ⟨i, hi, e, h3⟩ := h2
    have hlt : i < n := by
      have := congrArg List.length e
      simp at this
      omega
    have e2 : n - i = (n - (i + 1)) + 1 := by omega
    rw [e2, List.range'_succ] at e
    obtain ⟨e3, e4⟩ := List.cons.inj e
    subst e3
    exact step x γ2 hlt h3 N fun γ3 h4 => hN _ ⟨x + 1, by omega, e4, h4⟩
theorem atD_ok {ds : List D} {Q : D → Prop} {d : D} {k : Nat} (h : ds[k]? = some d) (hq : Q d) : atD ds (k : Int) Q := by
  obtain ⟨h1, h2⟩ := List.getElem?_eq_some_iff.mp h
  have e : atI ds (k : Int) = some d := by
    have e0 : ixN ds.length (k : Int) = some k := by
      unfold ixN
      simp [h1]
    unfold atI
    rw [e0]; exact h
  unfold atD
  rw [e]; exact hq
theorem sz_lt {a : Nat} {i j : Int} (h : Sz a j) (h0 : 0 ≤ i) (h1 : i < j) : Sz a i := sz_le h (by omega)
theorem sz_sub {a : Nat} {i j : Int} (hi : Sz a i) (hj : Sz a j) : Sz (a + 1) (i - j) := by
  have h := Int.natAbs_sub_le i j
  have e : 2 ^ (a + 1) = 2 ^ a * 2 := Nat.pow_succ ..
  show (i - j).natAbs < 2 ^ (a + 1)
  have h1 : i.natAbs < 2 ^ a := hi
  have h2 : j.natAbs < 2 ^ a := hj
  omega
section
variable {base : Heap} {P : Program} {w : World} {K : PySem.W.Frag} {mg : Str → Option Value}
abbrev s_joint_rest : Stmt := top 15
abbrev N_joint_rest : List Str := ["pairs", "found", "product", "rest", "modulus"]
theorem sc_joint_rest : FnScope N_joint_rest ["pairs"] (defScope s_joint_rest) := ⟨rfl, rfl, rfl, by decide +kernel, rfl, by decide +kernel, by decide +kernel⟩

def wd_joint_rest : List D → (D → Prop) → Prop := fun ds Q => ∃ ps : List (Int × Int), ds = [.lst (ps.map zI)] ∧ NT.CopL 1 ps ∧ Sz 140 (NT.pm ps) ∧ (∀ p ∈ ps, Sz 140 p.1) ∧
  ∀ r, 0 ≤ r → r < NT.pm ps → (∀ p ∈ ps, p.2 ∣ r - p.1) → Q (.int r)
theorem ok_joint_rest (T : Txt mg) (F : FAt K mg "joint_rest" s_joint_rest) (D_inverse_of : Def P w K mg base 1 "inverse_of" ["number", "modulus"] (spD K wd_inverse_of)) : Def P w K mg base 2 "joint_rest" ["pairs"] (spD K wd_joint_rest) := by
  refine def_of F (fun f fd G => fn_D G sc_joint_rest (fun ds Q h => ?_) (fun cdv A outer s H E hr ds Q h => ?_)) (fun _ _ _ _ _ _ us hl => match us, hl with | [_], _ => rfl)
  · obtain ⟨ps, rfl, _⟩ := h; rfl
  · obtain ⟨ps, rfl, hc, hs, hz, hq⟩ := h
    have nd := sc_joint_rest.nd
    refine ⟨_, _, (ss_cons (s_asg (q_tup (qa_cons q_int (qa_cons q_int qa_nil))) (g_tup rfl (gs_cons (g_name (i := 1) nd rfl (Or.inl rfl)) (gs_cons (g_name (i := 2) nd rfl (Or.inl rfl)) gs_nil))))
    (ss_cons (s_for PassesOwn.never rfl (i_list (qv 0)) (g_tup rfl (gs_cons (g_name (i := 3) nd rfl (Or.inl rfl)) (gs_cons (g_name (i := 4) nd rfl (Or.inl rfl)) gs_nil))) (ss_cons (s_set (i := 1) nd rfl (Or.inl rfl) (q_add (qv 1) (q_mul (qv 2) (q_mod (q_mul (q_sub (qv 3) (qv 1)) (q_call D_inverse_of (hr.mono (by decide)) (by rfl) (qa_cons (qv 2) (qa_cons (qv 4) qa_nil)))) (qv 4)))))
    (ss_one (s_set (i := 2) nd rfl (Or.inl rfl) (q_mul (qv 2) (qv 4))))))
    (ss_one (s_ret (qv 1))))), ?_⟩
    refine ⟨rfl, ?_⟩
    refine forInv zI (fun xs γ => ∃ (a A : Int) (x y : Slot), γ = [.im (.lst (ps.map zI)), .im (.int a), .im (.int A), x, y] ∧ 0 ≤ a ∧ a < A ∧ NT.CopL A xs ∧ A * NT.pm xs = NT.pm ps ∧ (∀ p ∈ xs, Sz 140 p.1) ∧
      ∀ r, 0 ≤ r → r < NT.pm ps → A ∣ r - a → (∀ p ∈ xs, p.2 ∣ r - p.1) → Q (.int r)) (fun γ h => ?_) (fun p xs γ h N hN => ?_) ps _ ⟨0, 1, .un, .un, rfl, by omega, by omega, hc, by omega, hz, fun r h0 h1 _ h3 => hq r h0 h1 h3⟩
    · obtain ⟨a, A, x, y, rfl, h0, h1, _, he, _, hq2⟩ := h
      have e : NT.pm [] = 1 := rfl
      rw [e] at he
      exact hq2 a h0 (by omega) ⟨0, by omega⟩ fun p hp => by cases hp
    · obtain ⟨a, A, x, y, rfl, h0, h1, hcl, he, hz2, hq2⟩ := h
      rw [NT.pm_cons] at he
      obtain ⟨c1, c2, c3⟩ := hcl
      have hpp := c3.pos
      have hA : 0 < A := by omega
      have hAm := Int.mul_pos hA c1
      have he2 : A * p.2 * NT.pm xs = NT.pm ps := by rw [Int.mul_assoc]; exact he
      have b1 : A * p.2 ≤ NT.pm ps := by
        rw [← he2]
        have := Int.mul_le_mul_of_nonneg_left (a := 1) (b := NT.pm xs) (c := A * p.2) (by omega) (by omega)
        omega
      have b2 : p.2 ≤ A * p.2 := by
        have := Int.mul_le_mul_of_nonneg_right (a := 1) (b := A) (c := p.2) (by omega) (by omega)
        omega
      have b3 : A ≤ A * p.2 := by
        have := Int.mul_le_mul_of_nonneg_left (a := 1) (b := p.2) (c := A) (by omega) (by omega)
        omega
      have sA : Sz 140 A := sz_le hs (by omega)
      have sm : Sz 140 p.2 := sz_le hs (by omega)
      have sa : Sz 140 a := sz_lt sA h0 h1
      have sp : Sz 140 p.1 := hz2 p List.mem_cons_self
      refine ⟨A, p.2, rfl, c1, sz_up sm (by decide), fun inv i0 i1 i2 => ?_⟩
      have hmod1 := Int.emod_lt_of_pos ((p.1 - a) * inv) c1
      have hmod0 := Int.emod_nonneg ((p.1 - a) * inv) (by omega : p.2 ≠ 0)
      refine ⟨mulOk (a := 141) (b := 140) (sz_sub sp sa) (sz_lt sm i0 i1), c1, mulOk sA (sz_lt sm hmod0 hmod1), mulOk sA sm, ?_⟩
      have hi := i2 c2
      obtain ⟨j1, j2, j3, j4⟩ := NT.jr_step (rest := p.1) h0 h1 c1 hi
      refine hN _ ⟨_, _, _, _, rfl, j1, j2, c3, he2, fun q hq => hz2 q (List.mem_cons_of_mem _ hq), fun r r0 r1 r2 r3 => ?_⟩
      refine hq2 r r0 r1 ?_ fun q hq => ?_
      · exact NT.dvd_sub_trans (Int.dvd_trans (Int.dvd_mul_right ..) r2) j3
      · rcases List.mem_cons.mp hq with e | e
        · subst e; exact NT.dvd_sub_trans (Int.dvd_trans (Int.dvd_mul_left ..) r2) j4
        · exact r3 q e
abbrev s_is_period_number : Stmt := top 17
abbrev N_is_period_number : List Str := ["thing", "root", "left", "prime"]
theorem sc_is_period_number : FnScope N_is_period_number ["thing"] (defScope s_is_period_number) := ⟨rfl, rfl, rfl, by decide +kernel, rfl, by decide +kernel, by decide +kernel⟩

def wd_is_period_number : List D → (D → Prop) → Prop := fun ds Q => ∃ e : Nat → Nat, ds = [.int (NT.pr e NT.PL)] ∧ Sz 140 (NT.pr e NT.PL) ∧ NT.rad e NT.PL ≤ 1000 ∧ Q (.bl true)
theorem rad_le (e : Nat → Nat) {k : Nat} (hk : k ≤ 30) : NT.rad e (NT.lt k) ≤ NT.rad e NT.PL ∧ 0 < NT.rad e (NT.lt k) := by
  have e1 : NT.rad e NT.PL = NT.rad e (NT.lt k) * NT.rad e (NT.ge k) := by
    rw [← NT.lt_ge k hk, NT.rad_app]
  have h1 : 0 < NT.rad e (NT.lt k) := NT.rad_pos e fun p hp => (List.mem_filter.mp hp).1
  have h2 : 0 < NT.rad e (NT.ge k) := NT.rad_pos e fun p hp => NT.ge_sub hp
  refine ⟨?_, h1⟩
  rw [e1]
  have := Int.mul_le_mul_of_nonneg_left (a := 1) (b := NT.rad e (NT.ge k)) (c := NT.rad e (NT.lt k)) (by omega) (by omega)
  omega
theorem kdivOk {k : Nat} {x : Int} (h : 0 < k) (hk : k < 30) : CDivW x (k : Int) := ⟨by omega, by show ((k : Int)).natAbs.log2 < 9000; rw [Int.natAbs_natCast]; exact Nat.lt_of_le_of_lt (Nat.log2_le_self k) (by omega)⟩
theorem szk {k : Nat} (hk : k < 30) {a : Nat} (h : 5 ≤ a) : Sz a (k : Int) := by
  show ((k : Int)).natAbs < 2 ^ a
  rw [Int.natAbs_natCast]
  exact Nat.lt_of_lt_of_le hk (Nat.le_trans (by decide : 30 ≤ 2 ^ 5) (Nat.pow_le_pow_right (by decide) h))
theorem ok_is_period_number (T : Txt mg) (F : FAt K mg "is_period_number" s_is_period_number) (D_is_integer : Def P w K mg base 1 "is_integer" ["thing"] (spD K wd_is_integer)) : Def P w K mg base 2 "is_period_number" ["thing"] (spD K wd_is_period_number) := by
  refine def_of F (fun f fd G => fn_D G sc_is_period_number (fun ds Q h => ?_) (fun cdv A outer s H E hr ds Q h => ?_)) (fun _ _ _ _ _ _ us hl => match us, hl with | [_], _ => rfl)
  · obtain ⟨e, rfl, _⟩ := h; rfl
  · obtain ⟨e, rfl, hs, hrad, hq⟩ := h
    have nd := sc_is_period_number.nd
    refine ⟨_, _, (ss_cons (s_if (QW.t (w_or (t_not (q_val (q_call D_is_integer (hr.mono (by decide)) (by rfl) (qa_cons (qv 0) qa_nil)))) (w_or1 (t_lt (qv 0) q_int)))) (ss_one (s_ret q_bl)) ss_nil)
    (ss_cons (s_par (i := 1) (j := 2) rfl nd rfl rfl (by decide) rfl rfl (qa_cons q_int (qa_cons (qv 0) qa_nil)) rfl)
    (ss_cons (s_for PassesOwn.never rfl (i_range2 (by rfl) T.n_range (qa_cons q_int (qa_cons (q_gint (by rfl) T.g_MOST_PRIME) qa_nil))) (g_name (i := 3) nd rfl (Or.inl rfl)) (ss_one (s_if (t_eq (q_mod (qv 2) (qv 3)) q_int) (ss_cons (s_set (i := 1) nd rfl (Or.inl rfl) (q_mul (qv 1) (qv 3)))
    (ss_one (s_while PassesOwn.never (t_eq (q_mod (qv 2) (qv 3)) q_int) (ss_one (s_set (i := 2) nd rfl (Or.inl rfl) (q_div (qv 2) (qv 3))))))) ss_nil)))
    (ss_one (s_ret (q_and (q_eq (qv 2) q_int) (q_one (q_le (qv 1) (q_gint (by rfl) T.g_MOST_ROOT))))))))), ?_⟩
    have hpos : 0 < NT.pr e NT.PL := NT.pr_pos e fun p hp => hp
    refine ⟨_, rfl, ?_⟩
    refine ifD (fun h => by omega) (fun _ => ?_)
    refine ⟨by decide, ?_⟩
    refine forRange (fun i => .int (2 + (i : Nat))) 28 (fun i γ => ∃ x, γ = [.im (.int (NT.pr e NT.PL)), .im (.int (NT.rad e (NT.lt (2 + i)))), .im (.int (NT.pr e (NT.ge (2 + i)))), x]) (fun γ h => ?_) (fun i γ hi h N hN => ?_) ⟨.un, ?_⟩
    · obtain ⟨x, rfl⟩ := h
      have e1 : NT.pr e (NT.ge (2 + 28)) = 1 := rfl
      have e2 : NT.rad e (NT.lt (2 + 28)) = NT.rad e NT.PL := rfl
      rw [e1, e2]
      show (if decide ((1 : Int) = 1) = true then Q (.bl (decide (NT.rad e NT.PL ≤ 1000))) else Q (.bl false))
      rw [if_pos (decide_eq_true rfl), decide_eq_true hrad]; exact hq
    · obtain ⟨x, rfl⟩ := h
      have ek : ((2 : Int) + (i : Nat)) = ((2 + i : Nat) : Int) := by omega
      have hk : 2 + i < 30 := by omega
      have h2 : 2 ≤ 2 + i := by omega
      have hR := NT.not_left e h2 hk
      have en : 2 + (i + 1) = 2 + i + 1 := rfl
      rw [ek]
      generalize 2 + i = k at *
      have hgo : ∀ (root left : Int) (x : Slot), root = NT.rad e (NT.lt (k + 1)) → left = NT.pr e (NT.ge (k + 1)) → N [.im (.int (NT.pr e NT.PL)), .im (.int root), .im (.int left), x] := fun root left x h1 h2 => by
        subst h1; subst h2
        exact hN _ ⟨x, by rw [en]⟩
      have ht : (NT.pr e (NT.ge k) % (k : Int) = 0) ↔ 0 < NT.ex e k := by
        rw [NT.pr_step e k hk]
        exact kpow_test hR
      have hrs := NT.rad_step e k hk
      refine ⟨by omega, ifD (fun hp => ?_) (fun hp => ?_)⟩
      · have h0 := ht.mp hp
        rw [if_pos h0] at hrs
        obtain ⟨q1, q2⟩ := rad_le e (k := k) (by omega)
        refine ⟨mulOk (a := 11) (b := 11) (by show Int.natAbs _ < 2048; omega) (szk hk (by decide)), ?_⟩
        refine ⟨fun γ => ∃ j : Nat, j ≤ NT.ex e k ∧ γ = [.im (.int (NT.pr e NT.PL)), .im (.int (NT.rad e (NT.lt k) * (k : Int))), .im (.int ((k : Int) ^ j * NT.pr e (NT.ge (k + 1)))), .im (.int k)],
          fun γ => match γ with | [_, _, .im (.int l), _] => l.toNat | _ => 0, ⟨NT.ex e k, Nat.le_refl _, ?_⟩, ?_⟩
        · rw [NT.pr_step e k hk]; rfl
        rintro γ ⟨j, hj, rfl⟩
        obtain ⟨b1, b2, b3, b4⟩ := kpow_le (e := e) h2 hk hj
        refine ⟨by omega, ifD (fun ht2 => ?_) (fun ht2 => ?_)⟩
        · obtain ⟨n, rfl⟩ : ∃ n, j = n + 1 := ⟨j - 1, by have := (kpow_test hR).mp ht2; omega⟩
          obtain ⟨c1, c2, c3, c4⟩ := kpow_le (e := e) h2 hk (j := n) (by omega)
          refine ⟨kdivOk (by omega) hk, ?_⟩
          rw [kpow_step (by omega)]
          refine ⟨⟨n, by omega, rfl⟩, ?_⟩
          show ((k : Int) ^ n * NT.pr e (NT.ge (k + 1))).toNat < ((k : Int) ^ (n + 1) * NT.pr e (NT.ge (k + 1))).toNat
          have e2 : (k : Int) ^ (n + 1) * NT.pr e (NT.ge (k + 1)) = (k : Int) * ((k : Int) ^ n * NT.pr e (NT.ge (k + 1))) := by rw [Int.pow_succ]; grind
          have e3 : 2 * ((k : Int) ^ n * NT.pr e (NT.ge (k + 1))) ≤ (k : Int) * ((k : Int) ^ n * NT.pr e (NT.ge (k + 1))) := Int.mul_le_mul_of_nonneg_right (by omega) (by omega)
          rw [e2]; omega
        · have h0 : j = 0 := by
            rcases Nat.eq_zero_or_pos j with h | h
            · exact h
            · exact absurd ((kpow_test hR).mpr h) ht2
          subst h0
          exact hgo _ _ _ hrs.symm (by rw [Int.pow_zero, Int.one_mul])
      · have h0 : NT.ex e k = 0 := by
          rcases Nat.eq_zero_or_pos (NT.ex e k) with h | h
          · exact h
          · exact absurd (ht.mpr h) hp
        rw [if_neg (by omega), Int.mul_one] at hrs
        exact hgo _ _ _ hrs.symm (by rw [NT.pr_step e k hk, h0, Int.pow_zero, Int.one_mul])
    · have e1 : NT.rad e (NT.lt (2 + 0)) = 1 := rfl
      have e2 : NT.pr e (NT.ge (2 + 0)) = NT.pr e NT.PL := rfl
      rw [e1, e2]; rfl
abbrev s_is_class_row : Stmt := top 23
abbrev N_is_class_row : List Str := ["period", "thing", "common", "number"]
theorem sc_is_class_row : FnScope N_is_class_row ["period", "thing"] (defScope s_is_class_row) := ⟨rfl, rfl, rfl, by decide +kernel, rfl, by decide +kernel, by decide +kernel⟩

def wd_is_class_row : List D → (D → Prop) → Prop := fun ds Q => ∃ (m : Int) (c : List Int), ds = [.int m, tI c] ∧ 1 ≤ c.length ∧ c.length ≤ 3 ∧ (∀ x ∈ c, 0 ≤ x ∧ x < m) ∧ NT.gcdL m c = 1 ∧ Q (.bl true)
theorem ok_is_class_row (T : Txt mg) (F : FAt K mg "is_class_row" s_is_class_row) (D_is_cell_row : Def P w K mg base 3 "is_cell_row" ["thing"] (spD K wd_is_cell_row)) : Def P w K mg base 4 "is_class_row" ["period", "thing"] (spD K wd_is_class_row) := by
  refine def_of F (fun f fd G => fn_D G sc_is_class_row (fun ds Q h => ?_) (fun cdv A outer s H E hr ds Q h => ?_)) (fun _ _ _ _ _ _ us hl => match us, hl with | [_, _], _ => rfl)
  · obtain ⟨m, c, rfl, _⟩ := h; rfl
  · obtain ⟨m, c, rfl, h1, h3, hx, hg, hq⟩ := h
    have nd := sc_is_class_row.nd
    refine ⟨_, _, (ss_cons (s_if (QW.t (w_or (t_not (q_val (q_call D_is_cell_row (hr.mono (by decide)) (by rfl) (qa_cons (qv 1) qa_nil)))) (w_or1 (t_not (q_val (q_cbl (cr_all rfl) dc_all (by rfl) T.n_all (QN.s (n_lc (own := [("number", 3)]) rfl nd (QI.c (i_tup (qv 1))) (blkOk_by (N := N_is_class_row) (sc := defScope s_is_class_row) (by decide +kernel)) (fun _ _ _ _ _ => (g_name (i := 3) nd rfl (Or.inl rfl))) (fun _ _ _ _ _ => ts_nil) (fun _ _ _ _ _ => (q_chain_le_lt q_int (qv 3) (qv 0))) (by decide))))))))) (ss_one (s_ret q_bl)) ss_nil)
    (ss_cons (s_set (i := 2) nd rfl (Or.inl rfl) (qv 0))
    (ss_cons (s_for PassesOwn.never rfl (i_tup (qv 1)) (g_name (i := 3) nd rfl (Or.inl rfl)) (ss_one (s_set (i := 2) nd rfl (Or.inl rfl) (q_gcd (by rfl) T.g_gcd (qa_cons (qv 2) (qa_cons (qv 3) qa_nil))))))
    (ss_one (s_ret (q_eq (qv 2) q_int)))))), ?_⟩
    refine ⟨c, rfl, h1, h3, ?_⟩
    refine ⟨few_map (by omega), lcMap D.int (fun _ => .bl true) c [] (fun x hm R1 R2 h1 => ?_) ⟨c.map fun _ => true, by simp, ?_⟩⟩
    · have a1 : decide ((0 : Int) ≤ x) = true := decide_eq_true (hx x hm).1
      have a2 : decide (x < m) = true := decide_eq_true (hx x hm).2
      show if decide ((0 : Int) ≤ x) = true then R1 (.bl (decide (x < m))) else R1 (.bl false)
      rw [if_pos a1, a2]; exact h1
    · have e : (c.map fun _ => true).all id = true := by simp
      rw [e]
      refine forInv D.int (fun xs γ => ∃ (g : Int) (x : Slot), γ = [.im (.int m), .im (tI c), .im (.int g), x] ∧ NT.gcdL g xs = 1) (fun γ h => ?_) (fun y xs γ h N hN => ?_) c _ ⟨m, .un, rfl, hg⟩
      · obtain ⟨g, x, rfl, h⟩ := h
        have h' : g = 1 := h
        subst h'
        exact hq
      · obtain ⟨g, x, rfl, h⟩ := h
        exact hN _ ⟨_, _, rfl, h⟩
/-- a stripe -/
abbrev sD (m : Int) (c : List Int) (r : Int) : D := .tup [.int m, tI c, .int r]
structure VS (e : Nat → Nat) (c : List Int) (r : Int) : Prop where
  sz : Sz 140 (NT.pr e NT.PL)
  rad : NT.rad e NT.PL ≤ 1000
  l1 : 1 ≤ c.length
  l3 : c.length ≤ 3
  c0 : ∀ x ∈ c, 0 ≤ x ∧ x < NT.pr e NT.PL
  uni : NT.Uni (NT.pr e NT.PL) c
  r0 : 0 ≤ r
  r1 : r < NT.pr e NT.PL
theorem VS.pos {e : Nat → Nat} {c : List Int} {r : Int} (h : VS e c r) : 0 < NT.pr e NT.PL := NT.pr_pos e fun p hp => hp
abbrev s_is_stripe_row : Stmt := top 24
abbrev N_is_stripe_row : List Str := ["thing"]
theorem sc_is_stripe_row : FnScope N_is_stripe_row ["thing"] (defScope s_is_stripe_row) := ⟨rfl, rfl, rfl, by decide +kernel, rfl, by decide +kernel, by decide +kernel⟩

def wd_is_stripe_row : List D → (D → Prop) → Prop := fun ds Q => ∃ (e : Nat → Nat) (c : List Int) (r : Int), ds = [sD (NT.pr e NT.PL) c r] ∧ VS e c r ∧ Q (.bl true)
theorem ok_is_stripe_row (T : Txt mg) (F : FAt K mg "is_stripe_row" s_is_stripe_row) (D_is_integer : Def P w K mg base 1 "is_integer" ["thing"] (spD K wd_is_integer)) (D_is_period_number : Def P w K mg base 2 "is_period_number" ["thing"] (spD K wd_is_period_number))
    (D_is_class_row : Def P w K mg base 4 "is_class_row" ["period", "thing"] (spD K wd_is_class_row)) : Def P w K mg base 5 "is_stripe_row" ["thing"] (spD K wd_is_stripe_row) := by
  refine def_of F (fun f fd G => fn_D G sc_is_stripe_row (fun ds Q h => ?_) (fun cdv A outer s H E hr ds Q h => ?_)) (fun _ _ _ _ _ _ us hl => match us, hl with | [_], _ => rfl)
  · obtain ⟨e, c, r, rfl, _⟩ := h; rfl
  · obtain ⟨e, c, r, rfl, v, hq⟩ := h
    have nd := sc_is_stripe_row.nd
    refine ⟨_, _, (ss_cons (s_if (QW.t (w_or (t_not (q_val (q_isi (T' := "tuple") (by rfl) T.n_isinstance (by rfl) T.n_tuple (qv 0)))) (w_or (t_ne (q_cb call_len_seq dc_lenT (by rfl) T.n_len (qa_cons (qv 0) qa_nil)) q_int) (w_or1 (t_not (q_val (q_call D_is_period_number (hr.mono (by decide)) (by rfl) (qa_cons (q_ixT (qv 0) q_int) qa_nil)))))))) (ss_one (s_ret q_bl)) ss_nil)
    (ss_one (s_ret (q_and (q_call D_is_class_row (hr.mono (by decide)) (by rfl) (qa_cons (q_ixT (qv 0) q_int) (qa_cons (q_ixT (qv 0) q_int) qa_nil))) (q_and (q_call D_is_integer (hr.mono (by decide)) (by rfl) (qa_cons (q_ixT (qv 0) q_int) qa_nil)) (q_one (q_chain_le_lt q_int (q_ixT (qv 0) q_int) (q_ixT (qv 0) q_int)))))))), ?_⟩
    refine ⟨e, rfl, v.sz, v.rad, ?_⟩
    refine ⟨_, c, rfl, v.l1, v.l3, v.c0, v.uni.gcdL (Int.le_of_lt v.pos), ?_⟩
    refine ⟨r, rfl, ?_⟩
    have a1 : decide ((0 : Int) ≤ r) = true := decide_eq_true v.r0
    have a2 : decide (r < NT.pr e NT.PL) = true := decide_eq_true v.r1
    show if decide ((0 : Int) ≤ r) = true then Q (.bl (decide (r < NT.pr e NT.PL))) else Q (.bl false)
    rw [if_pos a1, a2]; exact hq
abbrev s_unit_of : Stmt := top 25
abbrev N_unit_of : List Str := ["period", "row", "pairs", "prime", "power", "first", "number"]
theorem sc_unit_of : FnScope N_unit_of ["period", "row"] (defScope s_unit_of) := ⟨rfl, rfl, rfl, by decide +kernel, rfl, by decide +kernel, by decide +kernel⟩

def wd_unit_of : List D → (D → Prop) → Prop := fun ds Q => ∃ (p j : Nat) (a : List Int) (x : Int) (b : List Int), ds = [.int ((p : Int) ^ j), tI (a ++ x :: b)] ∧ p ∈ NT.PL ∧ 0 < j ∧ Sz 140 ((p : Int) ^ j) ∧ (a ++ x :: b).length ≤ 3 ∧
  (∀ y ∈ a, (p : Int) ∣ y) ∧ ¬ (p : Int) ∣ x ∧ ∀ u, 0 ≤ u → u < (p : Int) ^ j → (p : Int) ^ j ∣ x * u - 1 → Q (.int u)
theorem ok_unit_of (T : Txt mg) (F : FAt K mg "unit_of" s_unit_of) (D_powers_of : Def P w K mg base 1 "powers_of" ["period"] (spD K wd_powers_of)) (D_inverse_of : Def P w K mg base 1 "inverse_of" ["number", "modulus"] (spD K wd_inverse_of))
    (D_joint_rest : Def P w K mg base 2 "joint_rest" ["pairs"] (spD K wd_joint_rest)) : Def P w K mg base 3 "unit_of" ["period", "row"] (spD K wd_unit_of) := by
  refine def_of F (fun f fd G => fn_D G sc_unit_of (fun ds Q h => ?_) (fun cdv A outer s H E hr ds Q h => ?_)) (fun _ _ _ _ _ _ us hl => match us, hl with | [_, _], _ => rfl)
  · obtain ⟨p, j, a, x, b, rfl, _⟩ := h; rfl
  · obtain ⟨p, j, a, x, b, rfl, hp, hj, hs, hl, ha, hx, hq⟩ := h
    have nd := sc_unit_of.nd
    refine ⟨_, _, (ss_cons (s_setM (i := 2) nd rfl (Or.inl rfl) (n_lst qa_nil))
    (ss_cons (s_for PassesOwn.never rfl (i_list (q_call D_powers_of (hr.mono (by decide)) (by rfl) (qa_cons (qv 0) qa_nil))) (g_tup rfl (gs_cons (g_name (i := 3) nd rfl (Or.inr rfl)) (gs_cons (g_name (i := 4) nd rfl (Or.inl rfl)) gs_nil))) (ss_cons (s_set (i := 5) nd rfl (Or.inl rfl) (q_ixL (QN.s (n_lc (own := [("number", 6)]) rfl nd (QI.c (i_tup (qv 1))) (blkOk_by (N := N_unit_of) (sc := defScope s_unit_of) (by decide +kernel)) (fun _ _ _ _ _ => (g_name (i := 6) nd rfl (Or.inl rfl))) (fun _ _ _ _ _ => (ts_one (t_ne (q_mod (qv 6) (qv 3)) q_int))) (fun _ _ _ _ _ => (qv 6)) (by decide))) q_int))
    (ss_one (s_app 2 (qv 2) (q_tup (qa_cons (q_call D_inverse_of (hr.mono (by decide)) (by rfl) (qa_cons (qv 5) (qa_cons (qv 4) qa_nil))) (qa_cons (qv 4) qa_nil))) (pe_bm PySem.F.plainAttrs_list PySem.F.slot_list_append PySem.F.type_list_append mt_append (pv 2) (pa_cons (q_tup (qa_cons (q_call D_inverse_of (hr.mono (by decide)) (by rfl) (qa_cons (qv 5) (qa_cons (qv 4) qa_nil))) (qa_cons (qv 4) qa_nil))).pe pa_nil))))))
    (ss_one (s_frz 2 (s_ret (q_call D_joint_rest (hr.mono (by decide)) (by rfl) (qa_cons (qv 2) qa_nil))))))), ?_⟩
    have e1 : NT.pr (NT.only p j) NT.PL = (p : Int) ^ j := by rw [NT.pr_only NT.PL_nodup, if_pos hp]
    have e2 : NT.facs (NT.only p j) NT.PL = [((p : Int), (p : Int) ^ j)] := by rw [NT.facs_only hj NT.PL_nodup, if_pos hp]
    have hp2 := NT.PL_two hp
    have hpos := NT.pow_pos (p := p) (by omega) j
    refine ⟨rfl, (by show 2 < 7; decide), NT.only p j, by rw [e1], by rw [e1]; exact hs, ?_⟩
    rw [e2]
    refine ⟨few_map (by omega), lcFilt D.int (fun y => !decide (y % (p : Int) = 0)) D.int (a ++ x :: b) [] (fun y hy R1 R2 h1 h2 => ?_) ?_⟩
    · refine ⟨by omega, ?_⟩
      show if (!decide (y % (p : Int) = 0)) = true then R1 (.int y) else R2
      cases hb : (!decide (y % (p : Int) = 0)) with
      | true => exact h1 hb
      | false => exact h2 hb
    · have ef : (a ++ x :: b).filter (fun y => !decide (y % (p : Int) = 0)) = x :: b.filter (fun y => !decide (y % (p : Int) = 0)) := by
        rw [List.filter_append, List.filter_eq_nil_iff.mpr (fun y hy => by simp [NT.mod_eq_zero.mpr (ha y hy)]), List.nil_append, List.filter_cons_of_pos (by simp; exact fun h => hx (NT.mod_eq_zero.mp h))]
      rw [List.nil_append, ef]
      have hc : NT.Cop x ((p : Int) ^ j) := by
        rcases NT.prime_or hp x with h | h
        · exact NT.Cop.pow_right h.symm j
        · exact absurd h hx
      refine atD_ok (k := 0) (d := .int x) rfl ?_
      refine ⟨x, (p : Int) ^ j, rfl, hpos, sz_up hs (by decide), fun u u0 u1 u2 => ?_⟩
      refine ⟨rfl, rfl, ?_⟩
      have sm : NT.pm [(u, (p : Int) ^ j)] = (p : Int) ^ j := by simp [NT.pm]
      refine ⟨[(u, (p : Int) ^ j)], rfl, ⟨hpos, .one_left, trivial⟩, by rw [sm]; exact hs, fun q hq => ?_, fun r r0 r1 r2 => ?_⟩
      · rcases List.mem_singleton.mp hq with rfl
        exact sz_lt hs u0 u1
      · rw [sm] at r1
        have h3 := r2 _ (List.mem_singleton.mpr rfl)
        have h4 : r = u := NT.eq_of_mod h3 r0 r1 u0 u1
        subst h4
        exact hq r u0 u1 (u2 hc)
end
end SP
/-! F4 -/
set_option Elab.async false
set_option linter.all false
set_option maxRecDepth 100000
set_option maxHeartbeats 4100000
namespace SP
open PySem PySem.Spec L2 PyProof.Rows DL
theorem t_void {X : Cx} {e : Expr} : QT X e (fun _ _ _ => False) (fun _ _ => False) := ⟨⟨fun _ _ _ _ _ _ h => h.elim⟩, fun _ _ _ _ _ _ h => h.elim⟩
/-! ### == -/
structure Shp (d : D) (n : Nat) : Prop where
  lay : PyData.canLay0 d.py = true
  dep : PyData.depth d.py ≤ n
theorem shp_int {i : Int} {n : Nat} : Shp (.int i) n := ⟨by simp [D.py, PyData.canLay0], by simp [D.py, PyData.depth]⟩
theorem shp_all {n : Nat} : ∀ {ds : List D}, (∀ d ∈ ds, Shp d n) → PyData.canLayAll0 (D.pys ds) = true ∧ PyData.depthAll (D.pys ds) ≤ n
  | [], _ => by simp [D.pys, PyData.canLayAll0, PyData.depthAll]
  | d :: ds, h => by
    obtain ⟨h1, h2⟩ := shp_all (ds := ds) fun x hx => h x (List.mem_cons_of_mem _ hx)
    have h3 := h d List.mem_cons_self
    simp only [D.pys, PyData.canLayAll0, PyData.depthAll, h3.lay, h1, Bool.and_self, true_and]
    exact Nat.max_le.mpr ⟨h3.dep, h2⟩
theorem shp_tup {n : Nat} {ds : List D} (h : ∀ d ∈ ds, Shp d n) : Shp (.tup ds) (n + 1) := by
  obtain ⟨h1, h2⟩ := shp_all h
  exact ⟨by simp only [D.py, PyData.canLay0]; exact h1, by simp only [D.py, PyData.depth]; omega⟩
theorem shp_lst {n : Nat} {ds : List D} (h : ∀ d ∈ ds, Shp d n) : Shp (.lst ds) (n + 1) := by
  obtain ⟨h1, h2⟩ := shp_all h
  exact ⟨by simp only [D.py, PyData.canLay0]; exact h1, by simp only [D.py, PyData.depth]; omega⟩
theorem shp_tI {ns : List Int} {n : Nat} : Shp (tI ns) (n + 1) := shp_tup fun d hd => by
  obtain ⟨i, _, rfl⟩ := List.mem_map.mp hd
  exact shp_int
theorem EqD.of {x y : D} {b : Bool} (h1 : Shp x 60) (h2 : Shp y 60) (h : PyData.eqv x.py y.py = b) : EqD x y b where
  sx := by unfold SeqAt.shaped; rw [h1.lay]; simp; have := h1.dep; omega
  sy := by unfold SeqAt.shaped; rw [h2.lay]; simp; have := h2.dep; omega
  eq := h
theorem eqv_ints : ∀ xs ys : List Int, PyData.eqvAll (D.pys (iD xs)) (D.pys (iD ys)) = decide (xs = ys)
  | [], [] => rfl
  | [], y :: ys => by simp [D.pys, PyData.eqvAll]
  | x :: xs, [] => by simp [D.pys, PyData.eqvAll]
  | x :: xs, y :: ys => by
    have ih := eqv_ints xs ys
    simp only [iD, List.map_cons, D.pys, PyData.eqvAll, D.py, PyData.eqv]
    rw [show D.pys (List.map D.int xs) = D.pys (iD xs) from rfl, show D.pys (List.map D.int ys) = D.pys (iD ys) from rfl, ih]
    by_cases h : x = y
    · by_cases h2 : xs = ys
      · simp [h, h2]
      · simp [h, h2]
    · simp [h]
theorem eqD_ints {xs ys : List Int} : EqD (tI xs) (tI ys) (decide (xs = ys)) := EqD.of shp_tI shp_tI (by simp only [D.py, PyData.eqv]; exact eqv_ints xs ys)
abbrev hpD (m : Int) (c : List Int) (r t : Int) : D := .tup [.tup [sD m c r, .int t]]
theorem shp_sD {m : Int} {c : List Int} {r : Int} : Shp (sD m c r) 2 := shp_tup fun d hd => by
  simp only [List.mem_cons, List.not_mem_nil, or_false] at hd
  rcases hd with rfl | rfl | rfl
  · exact shp_int
  · exact shp_tI
  · exact shp_int
theorem shp_hp {m : Int} {c : List Int} {r t : Int} : Shp (hpD m c r t) 60 := by
  have h : Shp (hpD m c r t) 4 := shp_tup fun d hd => by
    rcases List.mem_singleton.mp hd with rfl
    refine shp_tup fun d hd => ?_
    simp only [List.mem_cons, List.not_mem_nil, or_false] at hd
    rcases hd with rfl | rfl
    · exact shp_sD
    · exact shp_int
  exact ⟨h.lay, Nat.le_trans h.dep (by decide)⟩
theorem eqD_hp0 {m : Int} {c : List Int} {r t : Int} : EqD (hpD m c r t) (.tup []) false := EqD.of shp_hp ⟨rfl, by decide⟩ rfl
section
variable {base : Heap} {P : Program} {w : World} {K : PySem.W.Frag} {mg : Str → Option Value}
abbrev s_is_heap_pair : Stmt := top 27
abbrev N_is_heap_pair : List Str := ["thing"]
theorem sc_is_heap_pair : FnScope N_is_heap_pair ["thing"] (defScope s_is_heap_pair) := ⟨rfl, rfl, rfl, by decide +kernel, rfl, by decide +kernel, by decide +kernel⟩

def wd_is_heap_pair : List D → (D → Prop) → Prop := fun ds Q => ∃ (e : Nat → Nat) (c : List Int) (r t : Int), ds = [.tup [sD (NT.pr e NT.PL) c r, .int t]] ∧ VS e c r ∧ t ≠ 0 ∧ Q (.bl true)
theorem ok_is_heap_pair (T : Txt mg) (F : FAt K mg "is_heap_pair" s_is_heap_pair) (D_is_integer : Def P w K mg base 1 "is_integer" ["thing"] (spD K wd_is_integer)) (D_is_stripe_row : Def P w K mg base 5 "is_stripe_row" ["thing"] (spD K wd_is_stripe_row)) :
    Def P w K mg base 6 "is_heap_pair" ["thing"] (spD K wd_is_heap_pair) := by
  refine def_of F (fun f fd G => fn_D G sc_is_heap_pair (fun ds Q h => ?_) (fun cdv A outer s H E hr ds Q h => ?_)) (fun _ _ _ _ _ _ us hl => match us, hl with | [_], _ => rfl)
  · obtain ⟨e, c, r, t, rfl, _⟩ := h; rfl
  · obtain ⟨e, c, r, t, rfl, v, ht, hq⟩ := h
    have nd := sc_is_heap_pair.nd
    refine ⟨_, _, (ss_cons (s_if (QW.t (w_or (t_not (q_val (q_isi (T' := "tuple") (by rfl) T.n_isinstance (by rfl) T.n_tuple (qv 0)))) (w_or (t_ne (q_cb call_len_seq dc_lenT (by rfl) T.n_len (qa_cons (qv 0) qa_nil)) q_int) (w_or1 (t_not (q_val (q_call D_is_stripe_row (hr.mono (by decide)) (by rfl) (qa_cons (q_ixT (qv 0) q_int) qa_nil)))))))) (ss_one (s_ret q_bl)) ss_nil)
    (ss_one (s_ret (q_and (q_call D_is_integer (hr.mono (by decide)) (by rfl) (qa_cons (q_ixT (qv 0) q_int) qa_nil)) (q_one (q_ne (q_ixT (qv 0) q_int) q_int)))))), ?_⟩
    refine ⟨e, c, r, rfl, v, ?_⟩
    refine ⟨t, rfl, ?_⟩
    show Q (.bl (!decide (t = 0)))
    rw [decide_eq_false ht]; exact hq
abbrev s_is_heap_value : Stmt := top 28
abbrev N_is_heap_value : List Str := ["thing", "near", "far", "pair"]
theorem sc_is_heap_value : FnScope N_is_heap_value ["thing"] (defScope s_is_heap_value) := ⟨rfl, rfl, rfl, by decide +kernel, rfl, by decide +kernel, by decide +kernel⟩

def wd_is_heap_value : List D → (D → Prop) → Prop := fun ds Q => ∃ (e : Nat → Nat) (c : List Int) (r t : Int), ds = [hpD (NT.pr e NT.PL) c r t] ∧ VS e c r ∧ t ≠ 0 ∧ Q (.bl true)
theorem ok_is_heap_value (T : Txt mg) (F : FAt K mg "is_heap_value" s_is_heap_value) (D_is_heap_pair : Def P w K mg base 6 "is_heap_pair" ["thing"] (spD K wd_is_heap_pair)) :
    Def P w K mg base 7 "is_heap_value" ["thing"] (spD K wd_is_heap_value) := by
  refine def_of F (fun f fd G => fn_D G sc_is_heap_value (fun ds Q h => ?_) (fun cdv A outer s H E hr ds Q h => ?_)) (fun _ _ _ _ _ _ us hl => match us, hl with | [_], _ => rfl)
  · obtain ⟨e, c, r, t, rfl, _⟩ := h; rfl
  · obtain ⟨e, c, r, t, rfl, v, ht, hq⟩ := h
    have nd := sc_is_heap_value.nd
    refine ⟨_, _, (ss_cons (s_if (QW.t (w_or (t_not (q_val (q_isi (T' := "tuple") (by rfl) T.n_isinstance (by rfl) T.n_tuple (qv 0)))) (w_or1 (t_not (q_val (q_cbl (cr_all rfl) dc_all (by rfl) T.n_all (QN.s (n_lc (own := [("pair", 3)]) rfl nd (QI.c (i_tup (qv 0))) (blkOk_by (N := N_is_heap_value) (sc := defScope s_is_heap_value) (by decide +kernel)) (fun _ _ _ _ _ => (g_name (i := 3) nd rfl (Or.inl rfl))) (fun _ _ _ _ _ => ts_nil) (fun _ _ _ _ _ => (q_call D_is_heap_pair (hr.mono (by decide)) (by rfl) (qa_cons (qv 3) qa_nil))) (by decide))))))))) (ss_one (s_ret q_bl)) ss_nil)
    (ss_cons (s_for PassesOwn.never rfl (i_zip (by rfl) T.n_zip (qa_cons (qv 0) (qa_cons (q_slT (qv 0) (qo_some q_int) qo_none) qa_nil))) (g_tup rfl (gs_cons (g_name (i := 1) nd rfl (Or.inl rfl)) (gs_cons (g_name (i := 2) nd rfl (Or.inl rfl)) gs_nil))) (ss_one (s_if (QW.t (w_or (t_not t_void) (w_or1 (t_ne (q_cb call_len_seq dc_lenT (by rfl) T.n_len (qa_cons (q_ixT (q_ixT (qv 1) q_int) q_int) qa_nil)) (q_cb call_len_seq dc_lenT (by rfl) T.n_len (qa_cons (q_ixT (q_ixT (qv 2) q_int) q_int) qa_nil)))))) (ss_one (s_ret q_bl)) ss_nil)))
    (ss_one (s_ret q_bl)))), ?_⟩
    refine ⟨rfl, e, c, r, t, rfl, v, ht, ?_⟩
    refine ⟨[true], rfl, ?_⟩
    exact ⟨by show ¬ ((1 : Nat) = 0 ∧ (1 : Nat) = 1); decide, hq⟩
abbrev s_heap_breadth : Stmt := top 29
abbrev N_heap_breadth : List Str := ["heap"]
theorem sc_heap_breadth : FnScope N_heap_breadth ["heap"] (defScope s_heap_breadth) := ⟨rfl, rfl, rfl, by decide +kernel, rfl, by decide +kernel, by decide +kernel⟩

def wd_heap_breadth : List D → (D → Prop) → Prop := fun ds Q => ∃ (m : Int) (c : List Int) (r t : Int), ds = [hpD m c r t] ∧ Q (.int c.length)
theorem ok_heap_breadth (T : Txt mg) (F : FAt K mg "heap_breadth" s_heap_breadth) : Def P w K mg base 1 "heap_breadth" ["heap"] (spD K wd_heap_breadth) := by
  refine def_of F (fun f fd G => fn_D G sc_heap_breadth (fun ds Q h => ?_) (fun cdv A outer s H E hr ds Q h => ?_)) (fun _ _ _ _ _ _ us hl => match us, hl with | [_], _ => rfl)
  · obtain ⟨m, c, r, t, rfl, _⟩ := h; rfl
  · obtain ⟨m, c, r, t, rfl, hq⟩ := h
    have nd := sc_heap_breadth.nd
    refine ⟨_, _, (ss_one (s_ret (q_ifExp (t_eqD hr (qv 0) (q_tup qa_nil)) q_non (q_cb call_len_seq dc_lenT (by rfl) T.n_len (qa_cons (q_ixT (q_ixT (q_ixT (qv 0) q_int) q_int) q_int) qa_nil))))), ?_⟩
    refine ⟨rfl, false, eqD_hp0, ?_⟩
    show Q (.int (iD c).length)
    rw [List.length_map]; exact hq
abbrev s_joint_breadth : Stmt := top 30
abbrev N_joint_breadth : List Str := ["one", "other"]
theorem sc_joint_breadth : FnScope N_joint_breadth ["one", "other"] (defScope s_joint_breadth) := ⟨rfl, rfl, rfl, by decide +kernel, rfl, by decide +kernel, by decide +kernel⟩

def wd_joint_breadth : List D → (D → Prop) → Prop := fun ds Q => ∃ (m : Int) (c : List Int) (r t : Int) (x : D), ds = [hpD m c r t, x] ∧ Q (.int c.length)
theorem ok_joint_breadth (T : Txt mg) (F : FAt K mg "joint_breadth" s_joint_breadth) (D_heap_breadth : Def P w K mg base 1 "heap_breadth" ["heap"] (spD K wd_heap_breadth)) : Def P w K mg base 2 "joint_breadth" ["one", "other"] (spD K wd_joint_breadth) := by
  refine def_of F (fun f fd G => fn_D G sc_joint_breadth (fun ds Q h => ?_) (fun cdv A outer s H E hr ds Q h => ?_)) (fun _ _ _ _ _ _ us hl => match us, hl with | [_, _], _ => rfl)
  · obtain ⟨m, c, r, t, x, rfl, _⟩ := h; rfl
  · obtain ⟨m, c, r, t, x, rfl, hq⟩ := h
    have nd := sc_joint_breadth.nd
    refine ⟨_, _, (ss_one (s_ret (q_ifExp (t_neD hr (qv 0) (q_tup qa_nil)) (q_call D_heap_breadth (hr.mono (by decide)) (by rfl) (qa_cons (qv 0) qa_nil)) (q_call D_heap_breadth (hr.mono (by decide)) (by rfl) (qa_cons (qv 1) qa_nil))))), ?_⟩
    refine ⟨rfl, false, eqD_hp0, ?_⟩
    exact ⟨m, c, r, t, rfl, hq⟩
abbrev s_need_heap : Stmt := top 31
abbrev N_need_heap : List Str := ["heap"]
theorem sc_need_heap : FnScope N_need_heap ["heap"] (defScope s_need_heap) := ⟨rfl, rfl, rfl, by decide +kernel, rfl, by decide +kernel, by decide +kernel⟩

def wd_need_heap : List D → (D → Prop) → Prop := fun ds Q => ∃ (e : Nat → Nat) (c : List Int) (r t : Int), ds = [hpD (NT.pr e NT.PL) c r t] ∧ VS e c r ∧ t ≠ 0 ∧ Q .non
theorem ok_need_heap (T : Txt mg) (F : FAt K mg "need_heap" s_need_heap) (D_is_heap_value : Def P w K mg base 7 "is_heap_value" ["thing"] (spD K wd_is_heap_value)) :
    Def P w K mg base 8 "need_heap" ["heap"] (spD K wd_need_heap) := by
  refine def_of F (fun f fd G => fn_D G sc_need_heap (fun ds Q h => ?_) (fun cdv A outer s H E hr ds Q h => ?_)) (fun _ _ _ _ _ _ us hl => match us, hl with | [_], _ => rfl)
  · obtain ⟨e, c, r, t, rfl, _⟩ := h; rfl
  · obtain ⟨e, c, r, t, rfl, v, ht, hq⟩ := h
    have nd := sc_need_heap.nd
    refine ⟨_, _, (ss_one (s_if (t_not (q_val (q_call D_is_heap_value (hr.mono (by decide)) (by rfl) (qa_cons (qv 0) qa_nil)))) (ss_one s_never) ss_nil)), ?_⟩
    exact ⟨e, c, r, t, rfl, v, ht, hq⟩
abbrev s_need_two : Stmt := top 32
abbrev N_need_two : List Str := ["one", "other"]
theorem sc_need_two : FnScope N_need_two ["one", "other"] (defScope s_need_two) := ⟨rfl, rfl, rfl, by decide +kernel, rfl, by decide +kernel, by decide +kernel⟩

def wd_need_two : List D → (D → Prop) → Prop := fun ds Q => ∃ (e f : Nat → Nat) (c b : List Int) (r s t u : Int), ds = [hpD (NT.pr e NT.PL) c r t, hpD (NT.pr f NT.PL) b s u] ∧ VS e c r ∧ VS f b s ∧ t ≠ 0 ∧ u ≠ 0 ∧ c.length = b.length ∧ Q .non
theorem ok_need_two (T : Txt mg) (F : FAt K mg "need_two" s_need_two) (D_heap_breadth : Def P w K mg base 1 "heap_breadth" ["heap"] (spD K wd_heap_breadth)) (D_need_heap : Def P w K mg base 8 "need_heap" ["heap"] (spD K wd_need_heap)) :
    Def P w K mg base 9 "need_two" ["one", "other"] (spD K wd_need_two) := by
  refine def_of F (fun f fd G => fn_D G sc_need_two (fun ds Q h => ?_) (fun cdv A outer s H E hr ds Q h => ?_)) (fun _ _ _ _ _ _ us hl => match us, hl with | [_, _], _ => rfl)
  · obtain ⟨e, f, c, b, r, s, t, u, rfl, _⟩ := h; rfl
  · obtain ⟨e, f, c, b, r, s, t, u, rfl, v1, v2, ht, hu, hl, hq⟩ := h
    have nd := sc_need_two.nd
    refine ⟨_, _, (ss_cons (s_expr (q_call D_need_heap (hr.mono (by decide)) (by rfl) (qa_cons (qv 0) qa_nil)))
    (ss_cons (s_expr (q_call D_need_heap (hr.mono (by decide)) (by rfl) (qa_cons (qv 1) qa_nil)))
    (ss_one (s_if (QW.t (w_and (t_neD hr (qv 0) (q_tup qa_nil)) (w_and (t_neD hr (qv 1) (q_tup qa_nil)) (w_and1 (t_ne (q_call D_heap_breadth (hr.mono (by decide)) (by rfl) (qa_cons (qv 0) qa_nil)) (q_call D_heap_breadth (hr.mono (by decide)) (by rfl) (qa_cons (qv 1) qa_nil))))))) (ss_one s_never) ss_nil)))), ?_⟩
    refine ⟨e, c, r, t, rfl, v1, ht, f, b, s, u, rfl, v2, hu, ?_⟩
    refine ⟨rfl, false, eqD_hp0, rfl, false, eqD_hp0, ?_⟩
    refine ⟨_, c, r, t, rfl, _, b, s, u, rfl, ?_⟩
    show if (!decide ((c.length : Int) = (b.length : Int))) = true then False else Q .non
    rw [hl, decide_eq_true rfl]; exact hq
abbrev s_need_stripes : Stmt := top 34
abbrev N_need_stripes : List Str := ["things", "thing"]
theorem sc_need_stripes : FnScope N_need_stripes ["things"] (defScope s_need_stripes) := ⟨rfl, rfl, rfl, by decide +kernel, rfl, by decide +kernel, by decide +kernel⟩

def wd_need_stripes : List D → (D → Prop) → Prop := fun ds Q => ∃ (e f : Nat → Nat) (c b : List Int) (r s : Int), ds = [.tup [sD (NT.pr e NT.PL) c r, sD (NT.pr f NT.PL) b s]] ∧ VS e c r ∧ VS f b s ∧ Q .non
theorem ok_need_stripes (T : Txt mg) (F : FAt K mg "need_stripes" s_need_stripes) (D_is_stripe_row : Def P w K mg base 5 "is_stripe_row" ["thing"] (spD K wd_is_stripe_row)) :
    Def P w K mg base 6 "need_stripes" ["things"] (spD K wd_need_stripes) := by
  refine def_of F (fun f fd G => fn_D G sc_need_stripes (fun ds Q h => ?_) (fun cdv A outer s H E hr ds Q h => ?_)) (fun _ _ _ _ _ _ us hl => match us, hl with | [_], _ => rfl)
  · obtain ⟨e, f, c, b, r, s, rfl, _⟩ := h; rfl
  · obtain ⟨e, f, c, b, r, s, rfl, v1, v2, hq⟩ := h
    have nd := sc_need_stripes.nd
    refine ⟨_, _, (ss_one (s_for PassesOwn.never rfl (i_tup (qv 0)) (g_name (i := 1) nd rfl (Or.inl rfl)) (ss_one (s_if (t_not (q_val (q_call D_is_stripe_row (hr.mono (by decide)) (by rfl) (qa_cons (qv 1) qa_nil)))) (ss_one s_never) ss_nil)))), ?_⟩
    exact ⟨e, c, r, rfl, v1, f, b, s, rfl, v2, hq⟩
end
end SP
/-! F5 -/
set_option Elab.async false
set_option linter.all false
set_option maxRecDepth 100000
set_option maxHeartbeats 4100000
namespace SP
open PySem PySem.Spec L2 PyProof.Rows DL
section
variable {base : Heap} {P : Program} {w : World} {K : PySem.W.Frag} {mg : Str → Option Value}
abbrev s_common_factor : Stmt := top 37
abbrev N_common_factor : List Str := ["one", "other", "powers", "found", "rests", "prime", "power", "less", "near", "far", "factor", "number"]
theorem sc_common_factor : FnScope N_common_factor ["one", "other"] (defScope s_common_factor) := ⟨rfl, rfl, rfl, by decide +kernel, rfl, by decide +kernel, by decide +kernel⟩

def wd_common_factor : List D → (D → Prop) → Prop := fun ds Q => ∃ (e f : Nat → Nat) (c b : List Int) (r s : Int), ds = [sD (NT.pr e NT.PL) c r, sD (NT.pr f NT.PL) b s] ∧ VS e c r ∧ VS f b s ∧ c.length = b.length ∧
  ∀ t φ, NT.Rel e f c b t φ → 0 ≤ φ → φ < NT.pr t NT.PL → Q (.tup [.int (NT.pr t NT.PL), .int φ])
theorem ok_common_factor (T : Txt mg) (F : FAt K mg "common_factor" s_common_factor) (D_powers_of : Def P w K mg base 1 "powers_of" ["period"] (spD K wd_powers_of)) (D_inverse_of : Def P w K mg base 1 "inverse_of" ["number", "modulus"] (spD K wd_inverse_of))
    (D_joint_rest : Def P w K mg base 2 "joint_rest" ["pairs"] (spD K wd_joint_rest)) (D_rests_by : Def P w K mg base 1 "rests_by" ["row", "modulus"] (spD K wd_rests_by)) (D_unit_of : Def P w K mg base 3 "unit_of" ["period", "row"] (spD K wd_unit_of)) :
    Def P w K mg base 4 "common_factor" ["one", "other"] (spD K wd_common_factor) := by
  refine def_of F (fun fa fd G => fn_D G sc_common_factor (fun ds Q h => ?_) (fun cdv A outer s0 H E hr ds Q h => ?_)) (fun _ _ _ _ _ _ us hl => match us, hl with | [_, _], _ => rfl)
  · obtain ⟨e, f, c, b, r, s, rfl, _⟩ := h; rfl
  · obtain ⟨e, f, c, b, r, s, rfl, v1, v2, hl, hq⟩ := h
    have nd := sc_common_factor.nd
    refine ⟨_, _, (ss_cons (s_parM3 (i := 2) (j := 3) (l := 4) rfl nd rfl rfl rfl (by decide) (by decide) (by decide) rfl rfl rfl (q_dict (by rfl) T.n_dict (q_call D_powers_of (hr.mono (by decide)) (by rfl) (qa_cons (q_ixT (qv 1) q_int) qa_nil))) q_int (fun h => ps_par3 rfl nd rfl rfl rfl (by decide) (by decide) (by decide) rfl rfl rfl h rfl))
    (ss_cons (s_for PassesOwn.never rfl (i_list (q_call D_powers_of (hr.mono (by decide)) (by rfl) (qa_cons (q_ixT (qv 0) q_int) qa_nil))) (g_tup rfl (gs_cons (g_name (i := 5) nd rfl (Or.inl rfl)) (gs_cons (g_name (i := 6) nd rfl (Or.inl rfl)) gs_nil))) (ss_cons (s_set (i := 7) nd rfl (Or.inl rfl) (q_cb (call_min2 rfl) dc_2 (by rfl) T.n_min (qa_cons (qv 6) (qa_cons (q_get hr (qv 2) (qv 5) q_int) qa_nil))))
    (ss_one (s_while PassesOwn.never (t_gt (qv 7) q_int) (ss_cons (s_par (i := 8) (j := 9) rfl nd rfl rfl (by decide) rfl rfl (qa_cons (q_call D_rests_by (hr.mono (by decide)) (by rfl) (qa_cons (q_ixT (qv 0) q_int) (qa_cons (qv 7) qa_nil))) (qa_cons (q_call D_rests_by (hr.mono (by decide)) (by rfl) (qa_cons (q_ixT (qv 1) q_int) (qa_cons (qv 7) qa_nil))) qa_nil)) rfl)
    (ss_cons (s_set (i := 10) nd rfl (Or.inr rfl) (q_mod (q_mul (q_call D_unit_of (hr.mono (by decide)) (by rfl) (qa_cons (qv 7) (qa_cons (qv 8) qa_nil))) (q_call D_inverse_of (hr.mono (by decide)) (by rfl) (qa_cons (q_call D_unit_of (hr.mono (by decide)) (by rfl) (qa_cons (qv 7) (qa_cons (qv 9) qa_nil))) (qa_cons (qv 7) qa_nil)))) (qv 7)))
    (ss_one (s_if (t_eqD hr (q_call D_rests_by (hr.mono (by decide)) (by rfl) (qa_cons (QN.e (n_lc (own := [("number", 11)]) rfl nd (QI.c (i_tup (qv 8))) (blkOk_by (N := N_common_factor) (sc := defScope s_common_factor) (by decide +kernel)) (fun _ _ _ _ _ => (g_name (i := 11) nd rfl (Or.inl rfl))) (fun _ _ _ _ _ => ts_nil) (fun _ _ _ _ _ => (q_mul (qv 10) (qv 11))) (by decide))) (qa_cons (qv 7) qa_nil))) (qv 9)) (ss_cons (s_set (i := 3) nd rfl (Or.inl rfl) (q_mul (qv 3) (qv 7)))
    (ss_cons (s_app 4 (qv 4) (q_tup (qa_cons (qv 10) (qa_cons (qv 7) qa_nil))) (pe_bm PySem.F.plainAttrs_list PySem.F.slot_list_append PySem.F.type_list_append mt_append (pv 4) (pa_cons (q_tup (qa_cons (qv 10) (qa_cons (qv 7) qa_nil))).pe pa_nil)))
    (ss_one (s_set (i := 7) nd rfl (Or.inl rfl) q_int)))) (ss_one (s_set (i := 7) nd rfl (Or.inl rfl) (q_div (qv 7) (qv 5))))))))))))
    (ss_one (s_frz 4 (s_ret (q_tup (qa_cons (qv 3) (qa_cons (q_call D_joint_rest (hr.mono (by decide)) (by rfl) (qa_cons (qv 4) qa_nil)) qa_nil)))))))), ?_⟩
    refine ⟨f, rfl, v2.sz, _, rfl, NT.facs_keys f NT.PL_nodup, by show 4 < 12; decide, ?_⟩
    refine ⟨e, rfl, v1.sz, ?_⟩
    have hpe := v1.pos
    have hl3 := v1.l3
    have hfm : (NT.facs e NT.PL).map zI = (NT.PL.filter fun p => decide (0 < e p)).map fun p : Nat => zI ((p : Int), (p : Int) ^ e p) := by
      rw [NT.facs_map, List.map_map]; rfl
    rw [hfm]
    refine forInv (fun p : Nat => zI ((p : Int), (p : Int) ^ e p)) (fun xs γ => ∃ (t : Nat → Nat) (ps : List (Int × Int)) (x5 x6 x7 x8 x9 x10 : Slot), γ = [.im (sD (NT.pr e NT.PL) c r), .im (sD (NT.pr f NT.PL) b s), .im (.dct (NT.facs f NT.PL)), .im (.int (NT.pr t NT.PL)), .mu (ps.map zI), x5, x6, x7, x8, x9, x10, .un] ∧ NT.CFI e f c b xs t ps)
      (fun γ h => ?_) (fun p xs γ h N hN => ?_) _ _ ⟨fun _ => 0, [], .un, .un, .un, .un, .un, .un, by have e1 : NT.pr (fun _ => 0) NT.PL = 1 := (by decide); rw [e1]; rfl, NT.CFI.start e f c b⟩
    · obtain ⟨t, ps, x5, x6, x7, x8, x9, x10, rfl, I⟩ := h
      refine ⟨ps, rfl, I.cop, ?_, fun q hq => ?_, fun φ p0 p1 p2 => ?_⟩
      · rw [I.pm]
        have h1 : NT.pr t NT.PL ∣ NT.pr e NT.PL := NT.pr_dvd fun p hp => (I.le p hp).1
        have h2 := Int.le_of_dvd hpe h1
        have h3 : 0 < NT.pr t NT.PL := NT.pr_pos t fun p hp => hp
        exact sz_le v1.sz (by omega)
      · obtain ⟨h1, h2⟩ := I.sz q hq
        exact sz_le v1.sz (by omega)
      · refine ⟨rfl, hq t φ (I.fin p2) p0 ?_⟩
        rw [← I.pm]; exact p1
    · obtain ⟨t, ps, x5, x6, x7, x8, x9, x10, rfl, I⟩ := h
      obtain ⟨hp, hep⟩ := I.sub p List.mem_cons_self
      have hp2 := NT.PL_two hp
      have hlen := I.len
      have hkk : ((NT.facs f NT.PL).lookup ((p : Nat) : Int)).getD 1 = (p : Int) ^ f p := NT.facs_lookup f NT.PL_nodup hp
      have hmin : (if ((NT.facs f NT.PL).lookup ((p : Nat) : Int)).getD 1 < (p : Int) ^ e p then ((NT.facs f NT.PL).lookup ((p : Nat) : Int)).getD 1 else (p : Int) ^ e p) = (p : Int) ^ min (e p) (f p) := by
        rw [hkk, ← NT.pow_min hp2.1]
        split <;> omega
      refine ⟨fun γ => ∃ (l : Int) (t' : Nat → Nat) (ps' : List (Int × Int)) (x8 x9 x10 : Slot), γ = [.im (sD (NT.pr e NT.PL) c r), .im (sD (NT.pr f NT.PL) b s), .im (.dct (NT.facs f NT.PL)), .im (.int (NT.pr t' NT.PL)), .mu (ps'.map zI), .im (.int p), .im (.int ((p : Int) ^ e p)), .im (.int l), x8, x9, x10, .un] ∧
        ((∃ j, l = (p : Int) ^ j ∧ j ≤ e p ∧ j ≤ f p ∧ t' = t ∧ ps' = ps ∧ ∀ j', j' ≤ e p → j' ≤ f p → ∀ k, NT.Dv ((p : Int) ^ j') b k c → j' ≤ j) ∨ (l = 1 ∧ NT.CFI e f c b xs t' ps')),
        fun γ => match γ with | [_, _, _, _, _, _, _, .im (.int l), _, _, _, _] => l.toNat | _ => 0, ⟨(p : Int) ^ min (e p) (f p), t, ps, x8, x9, x10, ?_, .inl ⟨min (e p) (f p), rfl, Nat.min_le_left _ _, Nat.min_le_right _ _, rfl, rfl, fun j' h1 h2 _ _ => Nat.le_min.mpr ⟨h1, h2⟩⟩⟩, ?_⟩
      · rw [← hmin]; rfl
      rintro γ ⟨l, t', ps', x8, x9, x10, rfl, I2⟩
      refine ifD (fun hgt => ?_) (fun hgt => ?_)
      · rcases I2 with ⟨j, rfl, je, jf, rfl, rfl, hmx⟩ | ⟨rfl, _⟩
        · have hj : 0 < j := by
            rcases Nat.eq_zero_or_pos j with h | h
            · subst h; rw [Int.pow_zero] at hgt; omega
            · exact h
          have hd1 : (p : Int) ^ j ∣ NT.pr e NT.PL := Int.dvd_trans (NT.pow_dvd je) (NT.pow_dvd_pr e hp)
          have hd2 : (p : Int) ^ j ∣ NT.pr f NT.PL := Int.dvd_trans (NT.pow_dvd jf) (NT.pow_dvd_pr f hp)
          have hpj : 0 < (p : Int) ^ j := by omega
          have hle := Int.le_of_dvd hpe hd1
          have sz : Sz 140 ((p : Int) ^ j) := sz_le v1.sz (by omega)
          obtain ⟨a1, y1, b1, n1, n2, n3⟩ := NT.first_unit v1.uni hp hj hd1
          obtain ⟨a2, y2, b2, f1, f2, f3⟩ := NT.first_unit v2.uni hp hj hd2
          have ln1 : (a1 ++ y1 :: b1).length ≤ 3 := by rw [← n1, List.length_map]; exact hl3
          have ln2 : (a2 ++ y2 :: b2).length ≤ 3 := by rw [← f1, List.length_map]; omega
          refine ⟨c, _, .inl rfl, by omega, hpj, ?_⟩
          refine ⟨b, _, .inl rfl, by omega, hpj, ?_⟩
          refine ⟨p, j, a1, y1, b1, (by show [D.int _, tI (c.map _)] = _; rw [n1]), hp, hj, sz, ln1, n2, n3, fun u u0 u1 u2 => ?_⟩
          refine ⟨p, j, a2, y2, b2, (by show [D.int _, tI (b.map _)] = _; rw [f1]), hp, hj, sz, ln2, f2, f3, fun v p0 p1 p2 => ?_⟩
          refine ⟨v, _, rfl, hpj, sz_up sz (by decide), fun ww w0 w1 w2 => ?_⟩
          have hcv : NT.Cop v ((p : Int) ^ j) := by
            obtain ⟨q, hq⟩ := p2
            exact ⟨y2, -q, by grind⟩
          have w3 := w2 hcv
          refine ⟨mulOk (sz_lt sz u0 u1) (sz_lt sz w0 w1), hpj, ?_⟩
          have g0 := Int.emod_nonneg (u * ww) (by omega : (p : Int) ^ j ≠ 0)
          have g1 := Int.emod_lt_of_pos (u * ww) hpj
          generalize hfa : u * ww % (p : Int) ^ j = φ at *
          have hkey : ∀ k, NT.Dv ((p : Int) ^ j) b k c → NT.Dv ((p : Int) ^ j) b φ c := fun k hk => by
            have h1 := NT.cf_test hp hj n1 f1 n2 n3 f2 f3 u2 p2 w3 (NT.dv_mods hk)
            intro i
            obtain ⟨q, hq⟩ := h1
            obtain ⟨q2, hq2⟩ := hk i
            have h2 := NT.mod_dvd (u * ww) ((p : Int) ^ j)
            rw [hfa] at h2
            obtain ⟨q3, hq3⟩ := h2
            refine ⟨q2 - (q - q3) * NT.at_ c i, ?_⟩
            have e1 : NT.at_ b i - φ * NT.at_ c i = (NT.at_ b i - k * NT.at_ c i) - ((u * ww - k) - (u * ww - φ)) * NT.at_ c i := by grind
            rw [e1, hq2, hq, hq3]; grind
          refine ⟨few_map (by rw [List.length_map]; omega), ?_⟩
          refine lcMap D.int (fun x => .int (φ * x)) (c.map (· % (p : Int) ^ j)) [] (fun x hx R1 R2 h1 => ?_) ?_
          · obtain ⟨z, _, rfl⟩ := List.mem_map.mp hx
            refine ⟨mulOk (sz_lt sz g0 g1) (sz_lt sz (Int.emod_nonneg z (by omega)) (Int.emod_lt_of_pos z hpj)), h1⟩
          · have eL : ([] ++ (c.map (· % (p : Int) ^ j)).map fun x => D.int (φ * x)) = iD ((c.map (· % (p : Int) ^ j)).map fun x => φ * x) := by
              rw [List.nil_append]; simp only [iD, List.map_map]; rfl
            rw [eL]
            refine ⟨_, _, .inr rfl, by rw [List.length_map, List.length_map]; omega, hpj, ?_⟩
            refine ⟨_, eqD_ints, ?_⟩
            by_cases hdv : NT.Dv ((p : Int) ^ j) b φ c
            · rw [(NT.dv_mod hl hpj).mpr hdv]
              show if decide (_ = _) = true then _ else _
              rw [if_pos (decide_eq_true rfl)]
              have hle2 : NT.pr t' NT.PL ≤ NT.pr e NT.PL := Int.le_of_dvd hpe (NT.pr_dvd fun p hp => (I.le p hp).1)
              have hpt : 0 < NT.pr t' NT.PL := NT.pr_pos t' fun p hp => hp
              have I3 := I.hit je jf g0 g1 hdv hmx
              have ept : NT.pr t' NT.PL * (p : Int) ^ j = NT.pr (NT.put t' p j) NT.PL := (NT.pr_put (I.z p List.mem_cons_self) NT.PL_nodup hp).symm
              refine ⟨mulOk (sz_le v1.sz (by omega)) sz, rfl, few_map (by simp at hlen; omega), ⟨1, NT.put t' p j, ps' ++ [(φ, (p : Int) ^ j)], .im (tI (c.map (· % (p : Int) ^ j))), .im (tI (b.map (· % (p : Int) ^ j))), .im (.int φ), ?_, .inr ⟨rfl, I3⟩⟩, ?_⟩
              · rw [ept, List.map_append]; rfl
              · show (1 : Int).toNat < ((p : Int) ^ j).toNat
                omega
            · have hne : ¬ (((c.map (· % (p : Int) ^ j)).map fun x => φ * x).map (· % (p : Int) ^ j) = b.map (· % (p : Int) ^ j)) := fun h => hdv ((NT.dv_mod hl hpj).mp h)
              show if decide (_ = _) = true then _ else _
              rw [if_neg ((by simpa using hne))]
              obtain ⟨n, rfl⟩ : ∃ n, j = n + 1 := ⟨j - 1, by omega⟩
              have e3 : (p : Int) ^ (n + 1) / (p : Int) = (p : Int) ^ n := by
                rw [Int.pow_succ]; exact Int.mul_ediv_cancel _ (by omega)
              refine ⟨kdivOk (by omega) (by omega), ⟨(p : Int) ^ n, t', ps', .im (tI (c.map (· % (p : Int) ^ (n + 1)))), .im (tI (b.map (· % (p : Int) ^ (n + 1)))), .im (.int φ), ?_, .inl ⟨n, rfl, by omega, by omega, rfl, rfl, fun j' h1 h2 k hk => ?_⟩⟩, ?_⟩
              · rw [← e3]; rfl
              · have h3 := hmx j' h1 h2 k hk
                by_cases h4 : j' = n + 1
                · subst h4; exact absurd (hkey k hk) hdv
                · omega
              · show ((p : Int) ^ (n + 1) / (p : Int)).toNat < ((p : Int) ^ (n + 1)).toNat
                rw [e3, Int.pow_succ]
                have h5 := NT.pow_pos (p := p) (by omega) n
                have h6 := Int.mul_le_mul_of_nonneg_left (a := 2) (b := (p : Int)) (c := (p : Int) ^ n) (by omega) (by omega)
                omega
        · omega
      · refine hN _ ?_
        rcases I2 with ⟨j, rfl, je, jf, rfl, rfl, hmx⟩ | ⟨rfl, I3⟩
        · have hj : j = 0 := by
            rcases Nat.eq_zero_or_pos j with h | h
            · exact h
            · exfalso
              obtain ⟨n, rfl⟩ : ∃ n, j = n + 1 := ⟨j - 1, by omega⟩
              rw [Int.pow_succ] at hgt
              have h5 := NT.pow_pos (p := p) (by omega) n
              have h6 := Int.mul_le_mul_of_nonneg_left (a := 2) (b := (p : Int)) (c := (p : Int) ^ n) (by omega) (by omega)
              omega
          subst hj
          exact ⟨t', ps', _, _, _, _, _, _, rfl, I.miss hmx⟩
        · exact ⟨t', ps', _, _, _, _, _, _, rfl, I3⟩
/-- what a share answers -/
def Shr (e f : Nat → Nat) (c b : List Int) (r s : Int) (top bot : Int) : Prop := ∀ t φ, NT.Rel e f c b t φ → (if NT.pr t NT.PL ∣ s - φ * r then top = NT.pr t NT.PL / NT.gcd (NT.pr t NT.PL) (NT.pr e NT.PL * NT.pr f NT.PL) ∧ bot = NT.pr e NT.PL * NT.pr f NT.PL / NT.gcd (NT.pr t NT.PL) (NT.pr e NT.PL * NT.pr f NT.PL) else top = 0 ∧ bot = 1)
abbrev s_share : Stmt := top 38
abbrev N_share : List Str := ["one", "other", "common", "factor"]
theorem sc_share : FnScope N_share ["one", "other"] (defScope s_share) := ⟨rfl, rfl, rfl, by decide +kernel, rfl, by decide +kernel, by decide +kernel⟩

def wd_share : List D → (D → Prop) → Prop := fun ds Q => ∃ (e f : Nat → Nat) (c b : List Int) (r s top bot : Int), ds = [sD (NT.pr e NT.PL) c r, sD (NT.pr f NT.PL) b s] ∧ VS e c r ∧ VS f b s ∧ c.length = b.length ∧ Shr e f c b r s top bot ∧
  Q (.tup [.int top, .int bot])
theorem szmul {a b : Nat} {i j : Int} (hi : Sz a i) (hj : Sz b j) : Sz (a + b) (i * j) := by
  show (i * j).natAbs < 2 ^ (a + b)
  rw [Int.natAbs_mul i j, Nat.pow_add]
  exact Nat.mul_lt_mul'' hi hj
theorem ok_share (T : Txt mg) (F : FAt K mg "share" s_share) (D_lowest : Def P w K mg base 1 "lowest" ["top", "bottom"] (spD K wd_lowest)) (D_common_factor : Def P w K mg base 4 "common_factor" ["one", "other"] (spD K wd_common_factor)) :
    Def P w K mg base 5 "share" ["one", "other"] (spD K wd_share) := by
  refine def_of F (fun fa fd G => fn_D G sc_share (fun ds Q h => ?_) (fun cdv A outer s0 H E hr ds Q h => ?_)) (fun _ _ _ _ _ _ us hl => match us, hl with | [_, _], _ => rfl)
  · obtain ⟨e, f, c, b, r, s, top, bot, rfl, _⟩ := h; rfl
  · obtain ⟨e, f, c, b, r, s, top, bot, rfl, v1, v2, hl, hsh, hq⟩ := h
    have nd := sc_share.nd
    refine ⟨_, _, (ss_cons (s_asg (q_call D_common_factor (hr.mono (by decide)) (by rfl) (qa_cons (qv 0) (qa_cons (qv 1) qa_nil))) (g_tup rfl (gs_cons (g_name (i := 2) nd rfl (Or.inl rfl)) (gs_cons (g_name (i := 3) nd rfl (Or.inl rfl)) gs_nil))))
    (ss_cons (s_if (t_ne (q_mod (q_sub (q_ixT (qv 1) q_int) (q_mul (qv 3) (q_ixT (qv 0) q_int))) (qv 2)) q_int) (ss_one (s_ret (q_tup (qa_cons q_int (qa_cons q_int qa_nil))))) ss_nil)
    (ss_one (s_ret (q_call D_lowest (hr.mono (by decide)) (by rfl) (qa_cons (qv 2) (qa_cons (q_mul (q_ixT (qv 0) q_int) (q_ixT (qv 1) q_int)) qa_nil))))))), ?_⟩
    refine ⟨e, f, c, b, r, s, rfl, v1, v2, hl, fun t φ R p0 p1 => ?_⟩
    have h1 := hsh t φ R
    have hG : 0 < NT.pr t NT.PL := NT.pr_pos t fun p hp => hp
    have hGm := Int.le_of_dvd v1.pos R.dm
    have sG : Sz 140 (NT.pr t NT.PL) := sz_le v1.sz (by omega)
    refine ⟨mulOk (sz_lt sG p0 p1) (sz_lt v1.sz v1.r0 v1.r1), hG, ?_⟩
    refine ifND (fun hn => ?_) (fun hn => ?_)
    · rw [if_neg fun z => hn (NT.mod_eq_zero.mpr z)] at h1
      obtain ⟨rfl, rfl⟩ := h1
      exact ⟨rfl, hq⟩
    · rw [if_pos (NT.mod_eq_zero.mp hn)] at h1
      obtain ⟨rfl, rfl⟩ := h1
      exact ⟨mulOk v1.sz v2.sz, _, _, rfl, Int.mul_pos v1.pos v2.pos, sz_up (szmul v1.sz v2.sz) (by decide), hq⟩
abbrev s_share_of_both : Stmt := top 39
abbrev N_share_of_both : List Str := ["one", "other"]
theorem sc_share_of_both : FnScope N_share_of_both ["one", "other"] (defScope s_share_of_both) := ⟨rfl, rfl, rfl, by decide +kernel, rfl, by decide +kernel, by decide +kernel⟩

theorem fk_share_of_both (T : Txt mg) (D_need_stripes : Def P w K mg base 6 "need_stripes" ["things"] (spD K wd_need_stripes)) (D_share : Def P w K mg base 5 "share" ["one", "other"] (spD K wd_share)) {fa : Addr} {fd : FuncData} (G : FunD K "share_of_both" "share_of_both" (defArgs s_share_of_both) (defBody s_share_of_both) (defScope s_share_of_both) [] [] fa fd) :
    FnOk P w K mg base CX0 7 fa fd ["one", "other"] (spD K wd_share) := by
  refine fn_D G sc_share_of_both (fun ds Q h => ?_) (fun cdv A outer s0 H E hr ds Q h => ?_)
  · obtain ⟨e, f, c, b, r, s, top, bot, rfl, _⟩ := h; rfl
  · obtain ⟨e, f, c, b, r, s, top, bot, rfl, v1, v2, hl, hsh, hq⟩ := h
    have nd := sc_share_of_both.nd
    refine ⟨_, _, (ss_cons (s_expr (q_call D_need_stripes (hr.mono (by decide)) (by rfl) (qa_cons (q_tup (qa_cons (qv 0) (qa_cons (qv 1) qa_nil))) qa_nil)))
    (ss_cons (s_if (t_ne (q_cb call_len_seq dc_lenT (by rfl) T.n_len (qa_cons (q_ixT (qv 0) q_int) qa_nil)) (q_cb call_len_seq dc_lenT (by rfl) T.n_len (qa_cons (q_ixT (qv 1) q_int) qa_nil))) (ss_one s_never) ss_nil)
    (ss_one (s_ret (q_call D_share (hr.mono (by decide)) (by rfl) (qa_cons (qv 0) (qa_cons (qv 1) qa_nil))))))), ?_⟩
    refine ⟨rfl, e, f, c, b, r, s, rfl, v1, v2, ?_⟩
    show if (!decide (((iD c).length : Int) = ((iD b).length : Int))) = true then False else _
    rw [List.length_map, List.length_map, hl, decide_eq_true rfl]
    exact ⟨e, f, c, b, r, s, top, bot, rfl, v1, v2, hl, hsh, hq⟩
theorem ok_share_of_both (T : Txt mg) (F : FAt K mg "share_of_both" s_share_of_both) (D_need_stripes : Def P w K mg base 6 "need_stripes" ["things"] (spD K wd_need_stripes)) (D_share : Def P w K mg base 5 "share" ["one", "other"] (spD K wd_share)) :
    Def P w K mg base 7 "share_of_both" ["one", "other"] (spD K wd_share) :=
  def_of F (fun fa fd G => fk_share_of_both T D_need_stripes D_share G) (fun _ _ _ _ _ _ us hl => match us, hl with | [_, _], _ => rfl)
end
end SP
/-! F6 -/
set_option Elab.async false
set_option linter.all false
set_option maxRecDepth 100000
set_option maxHeartbeats 4100000
namespace SP
open PySem PySem.Spec L2 PyProof.Rows DL
/-- a fraction in lowest terms -/
abbrev frD (a b : Int) : D := .tup [.int (a / NT.gcd a b), .int (b / NT.gcd a b)]
section
variable {base : Heap} {P : Program} {w : World} {K : PySem.W.Frag} {mg : Str → Option Value}
abbrev s_sum_of : Stmt := top 40
abbrev N_sum_of : List Str := ["parts", "top", "bottom", "near", "far"]
theorem sc_sum_of : FnScope N_sum_of ["parts"] (defScope s_sum_of) := ⟨rfl, rfl, rfl, by decide +kernel, rfl, by decide +kernel, by decide +kernel⟩

def wd_sum_of : List D → (D → Prop) → Prop := fun ds Q => ∃ (a b : Int), ds = [.lst [.tup [.int a, .int b]]] ∧ 0 < b ∧ Sz 8000 a ∧ Sz 8000 b ∧ Q (frD a b)
theorem ok_sum_of (T : Txt mg) (F : FAt K mg "sum_of" s_sum_of) (D_lowest : Def P w K mg base 1 "lowest" ["top", "bottom"] (spD K wd_lowest)) : Def P w K mg base 2 "sum_of" ["parts"] (spD K wd_sum_of) := by
  refine def_of F (fun fa fd G => fn_D G sc_sum_of (fun ds Q h => ?_) (fun cdv A outer s0 H E hr ds Q h => ?_)) (fun _ _ _ _ _ _ us hl => match us, hl with | [_], _ => rfl)
  · obtain ⟨a, b, rfl, _⟩ := h; rfl
  · obtain ⟨a, b, rfl, hb, sa, sb, hq⟩ := h
    have nd := sc_sum_of.nd
    refine ⟨_, _, (ss_cons (s_asg (q_tup (qa_cons q_int (qa_cons q_int qa_nil))) (g_tup rfl (gs_cons (g_name (i := 1) nd rfl (Or.inl rfl)) (gs_cons (g_name (i := 2) nd rfl (Or.inl rfl)) gs_nil))))
    (ss_cons (s_for PassesOwn.never rfl (i_list (qv 0)) (g_tup rfl (gs_cons (g_name (i := 3) nd rfl (Or.inl rfl)) (gs_cons (g_name (i := 4) nd rfl (Or.inl rfl)) gs_nil))) (ss_one (s_asg (q_call D_lowest (hr.mono (by decide)) (by rfl) (qa_cons (q_add (q_mul (qv 1) (qv 4)) (q_mul (qv 3) (qv 2))) (qa_cons (q_mul (qv 2) (qv 4)) qa_nil))) (g_tup rfl (gs_cons (g_name (i := 1) nd rfl (Or.inl rfl)) (gs_cons (g_name (i := 2) nd rfl (Or.inl rfl)) gs_nil))))))
    (ss_one (s_ret (q_tup (qa_cons (qv 1) (qa_cons (qv 2) qa_nil))))))), ?_⟩
    have s0 : Sz 1 0 := by decide
    have s1 : Sz 1 1 := by decide
    have e1 : 0 * b + a * 1 = a := by omega
    have e2 : 1 * b = b := by omega
    refine ⟨rfl, mulOk s0 sb, mulOk sa s1, mulOk s1 sb, a, b, ?_, hb, sb, rfl, hq⟩
    show [D.int (0 * b + a * 1), D.int (1 * b)] = _
    rw [e1, e2]
abbrev s_mean : Stmt := top 42
abbrev N_mean : List Str := ["heap", "stripe", "tint"]
theorem sc_mean : FnScope N_mean ["heap"] (defScope s_mean) := ⟨rfl, rfl, rfl, by decide +kernel, rfl, by decide +kernel, by decide +kernel⟩

def wd_mean : List D → (D → Prop) → Prop := fun ds Q => ∃ (e : Nat → Nat) (c : List Int) (r t : Int), ds = [hpD (NT.pr e NT.PL) c r t] ∧ VS e c r ∧ t ≠ 0 ∧ Sz 8000 t ∧ Q (frD t (NT.pr e NT.PL))
theorem fk_mean (T : Txt mg) (D_need_heap : Def P w K mg base 8 "need_heap" ["heap"] (spD K wd_need_heap)) (D_sum_of : Def P w K mg base 2 "sum_of" ["parts"] (spD K wd_sum_of)) {fa : Addr} {fd : FuncData} (G : FunD K "mean" "mean" (defArgs s_mean) (defBody s_mean) (defScope s_mean) [] [] fa fd) :
    FnOk P w K mg base CX0 9 fa fd ["heap"] (spD K wd_mean) := by
  refine fn_D G sc_mean (fun ds Q h => ?_) (fun cdv A outer s0 H E hr ds Q h => ?_)
  · obtain ⟨e, c, r, t, rfl, _⟩ := h; rfl
  · obtain ⟨e, c, r, t, rfl, v, ht, hs, hq⟩ := h
    have nd := sc_mean.nd
    refine ⟨_, _, (ss_cons (s_expr (q_call D_need_heap (hr.mono (by decide)) (by rfl) (qa_cons (qv 0) qa_nil)))
    (ss_one (s_ret (q_call D_sum_of (hr.mono (by decide)) (by rfl) (qa_cons (QN.e (n_lc (own := [("stripe", 1), ("tint", 2)]) rfl nd (QI.c (i_tup (qv 0))) (blkOk_by (N := N_mean) (sc := defScope s_mean) (by decide +kernel)) (fun _ _ _ _ _ => (g_tup rfl (gs_cons (g_name (i := 1) nd rfl (Or.inl rfl)) (gs_cons (g_name (i := 2) nd rfl (Or.inl rfl)) gs_nil)))) (fun _ _ _ _ _ => ts_nil) (fun _ _ _ _ _ => (q_tup (qa_cons (qv 2) (qa_cons (q_ixT (qv 1) q_int) qa_nil)))) (by decide))) qa_nil))))), ?_⟩
    refine ⟨e, c, r, t, rfl, v, ht, ?_⟩
    exact ⟨rfl, rfl, t, _, rfl, v.pos, hs, sz_up v.sz (by decide), hq⟩
theorem ok_mean (T : Txt mg) (F : FAt K mg "mean" s_mean) (D_need_heap : Def P w K mg base 8 "need_heap" ["heap"] (spD K wd_need_heap)) (D_sum_of : Def P w K mg base 2 "sum_of" ["parts"] (spD K wd_sum_of)) : Def P w K mg base 9 "mean" ["heap"] (spD K wd_mean) :=
  def_of F (fun fa fd G => fk_mean T D_need_heap D_sum_of G) (fun _ _ _ _ _ _ us hl => match us, hl with | [_], _ => rfl)
abbrev s_mean_of_product : Stmt := top 41
abbrev N_mean_of_product : List Str := ["one", "other", "parts", "near", "tint", "far", "number", "top", "bottom"]
theorem sc_mean_of_product : FnScope N_mean_of_product ["one", "other"] (defScope s_mean_of_product) := ⟨rfl, rfl, rfl, by decide +kernel, rfl, by decide +kernel, by decide +kernel⟩

def wd_mean_of_product : List D → (D → Prop) → Prop := fun ds Q => ∃ (e f : Nat → Nat) (c b : List Int) (r s t u top bot : Int), ds = [hpD (NT.pr e NT.PL) c r t, .lst [.tup [sD (NT.pr f NT.PL) b s, .int u]]] ∧ VS e c r ∧ VS f b s ∧ c.length = b.length ∧ Shr e f c b r s top bot ∧
  Sz 400 t ∧ Sz 400 u ∧ Sz 400 top ∧ Sz 400 bot ∧ 0 < bot ∧ Q (frD (t * u * top) bot)
theorem ok_mean_of_product (T : Txt mg) (F : FAt K mg "mean_of_product" s_mean_of_product) (D_share : Def P w K mg base 5 "share" ["one", "other"] (spD K wd_share)) (D_sum_of : Def P w K mg base 2 "sum_of" ["parts"] (spD K wd_sum_of)) : Def P w K mg base 6 "mean_of_product" ["one", "other"] (spD K wd_mean_of_product) := by
  refine def_of F (fun fa fd G => fn_D G sc_mean_of_product (fun ds Q h => ?_) (fun cdv A outer s0 H E hr ds Q h => ?_)) (fun _ _ _ _ _ _ us hl => match us, hl with | [_, _], _ => rfl)
  · obtain ⟨e, f, c, b, r, s, t, u, top, bot, rfl, _⟩ := h; rfl
  · obtain ⟨e, f, c, b, r, s, t, u, top, bot, rfl, v1, v2, hl, hsh, zt, zu, ztop, zbot, hb, hq⟩ := h
    have nd := sc_mean_of_product.nd
    refine ⟨_, _, (ss_cons (s_setM (i := 2) nd rfl (Or.inl rfl) (n_lst qa_nil))
    (ss_cons (s_for PassesOwn.never rfl (i_tup (qv 0)) (g_tup rfl (gs_cons (g_name (i := 3) nd rfl (Or.inl rfl)) (gs_cons (g_name (i := 4) nd rfl (Or.inl rfl)) gs_nil))) (ss_one (s_for PassesOwn.never rfl (i_list (qv 1)) (g_tup rfl (gs_cons (g_name (i := 5) nd rfl (Or.inl rfl)) (gs_cons (g_name (i := 6) nd rfl (Or.inl rfl)) gs_nil))) (ss_cons (s_asg (q_call D_share (hr.mono (by decide)) (by rfl) (qa_cons (qv 3) (qa_cons (qv 5) qa_nil))) (g_tup rfl (gs_cons (g_name (i := 7) nd rfl (Or.inl rfl)) (gs_cons (g_name (i := 8) nd rfl (Or.inl rfl)) gs_nil))))
    (ss_one (s_app 2 (qv 2) (q_tup (qa_cons (q_mul (q_mul (qv 4) (qv 6)) (qv 7)) (qa_cons (qv 8) qa_nil))) (pe_bm PySem.F.plainAttrs_list PySem.F.slot_list_append PySem.F.type_list_append mt_append (pv 2) (pa_cons (q_tup (qa_cons (q_mul (q_mul (qv 4) (qv 6)) (qv 7)) (qa_cons (qv 8) qa_nil))).pe pa_nil))))))))
    (ss_one (s_frz 2 (s_ret (q_call D_sum_of (hr.mono (by decide)) (by rfl) (qa_cons (qv 2) qa_nil))))))), ?_⟩
    refine ⟨rfl, by show 2 < 9; decide, ?_⟩
    refine ⟨e, f, c, b, r, s, top, bot, rfl, v1, v2, hl, hsh, ?_⟩
    have h1 := szmul zt zu
    refine ⟨mulOk zt zu, mulOk (a := 800) (b := 400) h1 ztop, rfl, rfl, ?_⟩
    exact ⟨_, bot, rfl, hb, sz_up (szmul h1 ztop) (by decide), sz_up zbot (by decide), hq⟩
abbrev s_likeness : Stmt := top 43
abbrev N_likeness : List Str := ["one", "other", "step", "back", "tint", "period", "row", "r"]
theorem sc_likeness : FnScope N_likeness ["one", "other", "step"] (defScope s_likeness) := ⟨rfl, rfl, rfl, by decide +kernel, rfl, by decide +kernel, by decide +kernel⟩

def wd_likeness : List D → (D → Prop) → Prop := fun ds Q => ∃ (e f : Nat → Nat) (c b st : List Int) (r s t u top bot : Int), ds = [hpD (NT.pr e NT.PL) c r t, hpD (NT.pr f NT.PL) b s u, tI st] ∧ VS e c r ∧ VS f b s ∧ c.length = b.length ∧ st.length = c.length ∧ t ≠ 0 ∧ u ≠ 0 ∧
  (∀ x ∈ st, Sz 400 x) ∧ Shr e f c b r ((s - dot b st) % NT.pr f NT.PL) top bot ∧ Sz 400 t ∧ Sz 400 u ∧ Sz 400 top ∧ Sz 400 bot ∧ 0 < bot ∧ Q (frD (t * u * top) bot)
theorem fk_likeness (T : Txt mg) (D_need_two : Def P w K mg base 9 "need_two" ["one", "other"] (spD K wd_need_two)) (D_is_cell_of : Def P w K mg base 4 "is_cell_of" ["thing", "breadth"] (spD K wd_is_cell_of))
    (D_joint_breadth : Def P w K mg base 2 "joint_breadth" ["one", "other"] (spD K wd_joint_breadth)) (D_product_at : Def P w K mg base 1 "product_at" ["row", "cell"] (spD K wd_product_at)) (D_mean_of_product : Def P w K mg base 6 "mean_of_product" ["one", "other"] (spD K wd_mean_of_product)) {fa : Addr} {fd : FuncData} (G : FunD K "likeness" "likeness" (defArgs s_likeness) (defBody s_likeness) (defScope s_likeness) [] [] fa fd) :
    FnOk P w K mg base CX0 10 fa fd ["one", "other", "step"] (spD K wd_likeness) := by
  refine fn_D G sc_likeness (fun ds Q h => ?_) (fun cdv A outer s0 H E hr ds Q h => ?_)
  · obtain ⟨e, f, c, b, st, r, s, t, u, top, bot, rfl, _⟩ := h; rfl
  · obtain ⟨e, f, c, b, st, r, s, t, u, top, bot, rfl, v1, v2, hl, hst, ht, hu, hzs, hsh, zt, zu, ztop, zbot, hb, hq⟩ := h
    have nd := sc_likeness.nd
    refine ⟨_, _, (ss_cons (s_expr (q_call D_need_two (hr.mono (by decide)) (by rfl) (qa_cons (qv 0) (qa_cons (qv 1) qa_nil))))
    (ss_cons (s_if (t_not (q_val (q_call D_is_cell_of (hr.mono (by decide)) (by rfl) (qa_cons (qv 2) (qa_cons (q_call D_joint_breadth (hr.mono (by decide)) (by rfl) (qa_cons (qv 0) (qa_cons (qv 1) qa_nil))) qa_nil))))) (ss_one s_never) ss_nil)
    (ss_cons (s_setLc (i := 3) (own := [("tint", 4), ("period", 5), ("row", 6), ("r", 7)]) rfl nd rfl rfl (sw_true rfl rfl rfl rfl) (QI.c (i_tup (qv 1))) (blkOk_by (N := N_likeness) (sc := defScope s_likeness) (by decide +kernel)) (fun _ _ _ _ _ => (g_tup rfl (gs_cons (g_tup rfl (gs_cons (g_name (i := 5) nd rfl (Or.inl rfl)) (gs_cons (g_name (i := 6) nd rfl (Or.inl rfl)) (gs_cons (g_name (i := 7) nd rfl (Or.inl rfl)) gs_nil)))) (gs_cons (g_name (i := 4) nd rfl (Or.inl rfl)) gs_nil)))) (fun _ _ _ _ _ => ts_nil) (fun _ _ _ _ _ => (q_tup (qa_cons (q_tup (qa_cons (qv 5) (qa_cons (qv 6) (qa_cons (q_mod (q_sub (qv 7) (q_call D_product_at (hr.mono (by decide)) (by rfl) (qa_cons (qv 6) (qa_cons (qv 2) qa_nil)))) (qv 5)) qa_nil)))) (qa_cons (qv 4) qa_nil)))) (by decide))
    (ss_one (s_ret (q_call D_mean_of_product (hr.mono (by decide)) (by rfl) (qa_cons (qv 0) (qa_cons (qv 3) qa_nil)))))))), ?_⟩
    refine ⟨e, f, c, b, r, s, t, u, rfl, v1, v2, ht, hu, hl, ?_⟩
    refine ⟨_, c, r, t, _, rfl, ?_⟩
    have l1 := v1.l1
    have l3 := v1.l3
    refine ⟨st, (by show [tI st, D.int (c.length : Nat)] = _; rw [hst]), by omega, by omega, ?_⟩
    have bz : ∀ x ∈ b, Sz 6000 x := fun x hx => sz_up (sz_lt v2.sz (v2.c0 x hx).1 (v2.c0 x hx).2) (by decide)
    refine ⟨rfl, b, st, rfl, by omega, bz, fun y hy => sz_up (hzs y hy) (by decide), v2.pos, rfl, rfl, ?_⟩
    have hp := v2.pos
    refine ⟨e, f, c, b, r, (s - dot b st) % NT.pr f NT.PL, t, u, top, bot, rfl, v1, ⟨v2.sz, v2.rad, v2.l1, v2.l3, v2.c0, v2.uni, Int.emod_nonneg _ (by omega), Int.emod_lt_of_pos _ hp⟩, hl, hsh, zt, zu, ztop, zbot, hb, hq⟩
theorem ok_likeness (T : Txt mg) (F : FAt K mg "likeness" s_likeness) (D_need_two : Def P w K mg base 9 "need_two" ["one", "other"] (spD K wd_need_two)) (D_is_cell_of : Def P w K mg base 4 "is_cell_of" ["thing", "breadth"] (spD K wd_is_cell_of))
    (D_joint_breadth : Def P w K mg base 2 "joint_breadth" ["one", "other"] (spD K wd_joint_breadth)) (D_product_at : Def P w K mg base 1 "product_at" ["row", "cell"] (spD K wd_product_at)) (D_mean_of_product : Def P w K mg base 6 "mean_of_product" ["one", "other"] (spD K wd_mean_of_product)) :
    Def P w K mg base 10 "likeness" ["one", "other", "step"] (spD K wd_likeness) :=
  def_of F (fun fa fd G => fk_likeness T D_need_two D_is_cell_of D_joint_breadth D_product_at D_mean_of_product G) (fun _ _ _ _ _ _ us hl => match us, hl with | [_, _, _], _ => rfl)
end
end SP
/-! F7 -/
set_option Elab.async false
set_option linter.all false
set_option maxRecDepth 100000
set_option maxHeartbeats 4100000
set_option exponentiation.threshold 10000
namespace SP
open PySem PySem.Spec L2 PyProof.Rows DL
/-- a def with one default -/
abbrev FAt1 (K : PySem.W.Frag) (mg : Str → Option Value) (x : Str) (st : Stmt) : Prop := ∃ f fd, FunD K x x (defArgs st) (defBody st) (defScope st) [V.int 1] [] f fd ∧ mg x = some (.ref f)
theorem def_of1 {P : Program} {w : World} {K : PySem.W.Frag} {mg : Str → Option Value} {base : Heap} {k : Nat} {x : Str} {ps : List Str} {sp : Sp} {st : Stmt} (F : FAt1 K mg x st) (h : ∀ f fd, FunD K x x (defArgs st) (defBody st) (defScope st) [V.int 1] [] f fd → FnOk P w K mg base CX0 k f fd ps sp)
    (n : Nat) (hn : n = ps.length) (hb : ∀ (T : Addr) (kV doc pm : Value) (an : Option Addr) (cdv ct : Value) (us its : List Value), us.length = n → its.length = 1 →
      ∃ k, bindArgs (PySem.W.fnOf x x (defArgs st) (defBody st) (defScope st) (.ref T) kV doc pm an cdv ct) ⟨us, []⟩ = seqItems? (.ref T) >>= k ∧ k (some its.toArray) = pure (ps.zip (us ++ its.drop 1))) : Def P w K mg base k x ps sp := by
  obtain ⟨f, fd, G, hm⟩ := F
  obtain ⟨ds, v, b⟩ := G.binds1 n 1 (by simp) (by simp [hn]) hb
  have e : ds = [] := by cases v; rfl
  subst e
  exact ⟨f, fd, h f fd G, hm, G.kp, b⟩
theorem natAbs_sz {a : Nat} {x M : Int} (h : (x.natAbs : Int) ≤ M) (hM : Sz a M) : Sz a x := by
  show x.natAbs < 2 ^ a
  have : M.natAbs < 2 ^ a := hM
  omega
section
variable {base : Heap} {P : Program} {w : World} {K : PySem.W.Frag} {mg : Str → Option Value}
abbrev s_cell_sum : Stmt := top 21
abbrev N_cell_sum : List Str := ["one", "other", "many", "a", "b"]
theorem sc_cell_sum : FnScope N_cell_sum ["one", "other", "many"] (defScope s_cell_sum) := ⟨rfl, rfl, rfl, by decide +kernel, rfl, by decide +kernel, by decide +kernel⟩

def wd_cell_sum : List D → (D → Prop) → Prop := fun ds Q => ∃ (xs ys : List Int) (k : Int), ds = [tI xs, tI ys, .int k] ∧ xs.length ≤ 12 ∧ Sz 6000 k ∧ (∀ y ∈ ys, Sz 6000 y) ∧ Q (tI (NT.addm xs k ys))
theorem ok_cell_sum (T : Txt mg) (F : FAt1 K mg "cell_sum" s_cell_sum) : Def P w K mg base 1 "cell_sum" ["one", "other", "many"] (spD K wd_cell_sum) := by
  refine def_of1 F (fun f fd G => fn_D G sc_cell_sum (fun ds Q h => ?_) (fun cdv A outer s H E hr ds Q h => ?_)) 3 rfl (fun T kV doc pm an cdv ct us its h1 h2 => match us, its, h1, h2 with | [_, _, _], [_], _, _ => ⟨_, rfl, rfl⟩)
  · obtain ⟨xs, ys, k, rfl, _⟩ := h; rfl
  · obtain ⟨xs, ys, k, rfl, hl, hk, hy, hq⟩ := h
    have nd := sc_cell_sum.nd
    refine ⟨_, _, (ss_one (s_ret (q_ctl call_tuple_of dc_tupL (by rfl) T.n_tuple (QN.s (n_lc (own := [("a", 3), ("b", 4)]) rfl nd (QI.c (i_zip (by rfl) T.n_zip (qa_cons (qv 0) (qa_cons (qv 1) qa_nil)))) (blkOk_by (N := N_cell_sum) (sc := defScope s_cell_sum) (by decide +kernel)) (fun _ _ _ _ _ => (g_tup rfl (gs_cons (g_name (i := 3) nd rfl (Or.inl rfl)) (gs_cons (g_name (i := 4) nd rfl (Or.inl rfl)) gs_nil)))) (fun _ _ _ _ _ => ts_nil) (fun _ _ _ _ _ => (q_add (qv 3) (q_mul (qv 2) (qv 4)))) (by decide)))))), ?_⟩
    have e := zipI xs ys
    show few (List.zipWith (fun a b => D.tup [a, b]) (iD xs) (iD ys)) ∧ _
    rw [e]
    refine ⟨few_map (by rw [List.length_zip]; omega), lcMap zI (fun p => .int (p.1 + k * p.2)) (xs.zip ys) [] (fun p hp R1 R2 h1 => ?_) ?_⟩
    · exact ⟨mulOk hk (hy _ (List.of_mem_zip hp).2), h1⟩
    · have e2 : ([] ++ (xs.zip ys).map fun p => D.int (p.1 + k * p.2)) = iD (NT.addm xs k ys) := by
        rw [List.nil_append]; simp only [iD, NT.addm, List.map_map]; rfl
      rw [e2]; exact hq
abbrev s_unit_steps : Stmt := top 45
abbrev N_unit_steps : List Str := ["breadth", "i", "at"]
theorem sc_unit_steps : FnScope N_unit_steps ["breadth"] (defScope s_unit_steps) := ⟨rfl, rfl, rfl, by decide +kernel, rfl, by decide +kernel, by decide +kernel⟩

/-- the unit vectors -/
def units (d : Nat) : List (List Int) := (List.range d).map fun i => (List.range d).map fun a => if a = i then (1 : Int) else 0
def wd_unit_steps : List D → (D → Prop) → Prop := fun ds Q => ∃ d : Nat, ds = [.int d] ∧ d ≤ 12 ∧ Q (.lst ((units d).map tI))
theorem ok_unit_steps (T : Txt mg) (F : FAt K mg "unit_steps" s_unit_steps) : Def P w K mg base 1 "unit_steps" ["breadth"] (spD K wd_unit_steps) := by
  refine def_of F (fun f fd G => fn_D G sc_unit_steps (fun ds Q h => ?_) (fun cdv A outer s H E hr ds Q h => ?_)) (fun _ _ _ _ _ _ us hl => match us, hl with | [_], _ => rfl)
  · obtain ⟨d, rfl, _⟩ := h; rfl
  · obtain ⟨d, rfl, hd, hq⟩ := h
    have nd := sc_unit_steps.nd
    refine ⟨_, _, (ss_one (s_ret (QN.e (n_lc (own := [("i", 1)]) rfl nd (QI.c (i_range (by rfl) T.n_range (qa_cons (qv 0) qa_nil))) (blkOk_by (N := N_unit_steps) (sc := defScope s_unit_steps) (by decide +kernel)) (fun _ _ _ _ _ => (g_name (i := 1) nd rfl (Or.inr rfl))) (fun _ _ _ _ _ => ts_nil) (fun _ _ _ _ _ => (q_ctl call_tuple_of dc_tupL (by rfl) T.n_tuple (QN.s (n_lc (own := [("at", 2)]) rfl nd (QI.c (i_range (by rfl) T.n_range (qa_cons (qv 0) qa_nil))) (blkOk_by (by rfl)) (fun _ _ _ _ _ => (g_name (i := 2) nd rfl (Or.inl rfl))) (fun _ _ _ _ _ => ts_nil) (fun _ _ _ _ _ => (q_ifExp (t_eq (qv 2) (qv 1)) q_int q_int)) (by decide))))) (by decide))))), ?_⟩
    have hr1 : ((d : Nat) : Int) < 2 ^ 62 ∧ -(2 ^ 62) ≤ ((d : Nat) : Int) := by omega
    refine ⟨hr1.1, hr1.2, few_map (by rw [List.length_range]; omega), ?_⟩
    refine lcMap (fun i : Nat => .int (i : Nat)) (fun i => tI ((List.range d).map fun a => if a = i then (1 : Int) else 0)) (List.range d) [] (fun i hi R1 R2 h1 => ?_) ?_
    · refine ⟨hr1.1, hr1.2, few_map (by rw [List.length_range]; omega), ?_⟩
      refine lcMap (fun a : Nat => .int (a : Nat)) (fun a => .int (if a = i then (1 : Int) else 0)) (List.range d) [] (fun a ha R1 R2 h2 => ?_) ?_
      · refine ifD (fun h => ?_) (fun h => ?_)
        · have : a = i := by omega
          rw [if_pos this] at h2; exact h2
        · have : ¬ a = i := by omega
          rw [if_neg this] at h2; exact h2
      · have e2 : ([] ++ (List.range d).map fun a => D.int (if a = i then (1 : Int) else 0)) = iD ((List.range d).map fun a => if a = i then (1 : Int) else 0) := by
          rw [List.nil_append]; simp only [iD, List.map_map]; rfl
        rw [e2]; exact h1
    · have e2 : ([] ++ (List.range d).map fun i => tI ((List.range d).map fun a => if a = i then (1 : Int) else 0)) = (units d).map tI := by
        rw [List.nil_append]; simp only [units, List.map_map]; rfl
      rw [e2]; exact hq
abbrev s_gathered_steps : Stmt := top 46
abbrev N_gathered_steps : List Str := ["steps", "row", "modulus", "left", "values", "least", "at", "i", "step", "value"]
theorem sc_gathered_steps : FnScope N_gathered_steps ["steps", "row", "modulus"] (defScope s_gathered_steps) := ⟨rfl, rfl, rfl, by decide +kernel, rfl, by decide +kernel, by decide +kernel⟩

def wd_gathered_steps : List D → (List D → D → Prop) → Prop := fun ds Q => ∃ (st : List (List Int)) (row : List Int) (m M B : Int), ds = [.lst (st.map tI), tI row, .int m] ∧ 0 < st.length ∧ st.length ≤ 3 ∧ row.length ≤ 3 ∧ (∀ v ∈ st, v.length = row.length) ∧ 0 < m ∧ Sz 400 m ∧ (∀ x ∈ row, Sz 400 x) ∧ 0 ≤ M ∧
  (∀ v ∈ st, ∀ x ∈ v, (x.natAbs : Int) ≤ M) ∧ M * (2 * m) ^ st.length ≤ B ∧ Sz 5000 B ∧ ∀ f rest v, NT.GOut st row m B f rest v → Q ((f :: rest).map tI) (.int v)
theorem ok_gathered_steps (T : Txt mg) (F : FAt K mg "gathered_steps" s_gathered_steps) (D_product_at : Def P w K mg base 1 "product_at" ["row", "cell"] (spD K wd_product_at)) (D_cell_sum : Def P w K mg base 1 "cell_sum" ["one", "other", "many"] (spD K wd_cell_sum)) :
    Def P w K mg base 2 "gathered_steps" ["steps", "row", "modulus"] (spL K wd_gathered_steps) := by
  refine def_of F (fun f fd G => fn_L G sc_gathered_steps (fun ds Q h => ?_) (fun cdv A outer s H E hr ds Q h => ?_)) (fun _ _ _ _ _ _ us hl => match us, hl with | [_, _, _], _ => rfl)
  · obtain ⟨st, row, m, M, B, rfl, _⟩ := h; rfl
  · obtain ⟨st, row, m, M, B, rfl, k0, k3, r3, hl, hm, sm, srow, hM0, hM, hB, sB, hq⟩ := h
    have nd := sc_gathered_steps.nd
    refine ⟨_, _, (ss_cons (s_setM (i := 3) nd rfl (Or.inl rfl) (n_list (by rfl) T.n_list (qvl 0)))
    (ss_cons (s_setMLc (i := 4) (own := [("step", 8)]) rfl nd rfl rfl (sw_true rfl rfl rfl rfl) (ic_list (qvl 3)) (blkOk_by (N := N_gathered_steps) (sc := defScope s_gathered_steps) (by decide +kernel)) (fun _ _ _ _ _ => (g_name (i := 8) nd rfl (Or.inl rfl))) (fun _ _ _ _ _ => ts_nil) (fun _ _ _ _ _ => (q_mod (q_call D_product_at (hr.mono (by decide)) (by rfl) (qa_cons (qv 1) (qa_cons (qv 8) qa_nil))) (qv 2))) (by decide))
    (ss_cons (s_while PassesOwn.never (t_gt (q_cbl call_len_seq dc_lenL (by rfl) T.n_len (QN.s (n_lc (own := [("value", 9)]) rfl nd (ic_list (qvl 4)) (blkOk_by (N := N_gathered_steps) (sc := defScope s_gathered_steps) (by decide +kernel)) (fun _ _ _ _ _ => (g_name (i := 9) nd rfl (Or.inl rfl))) (fun _ _ _ _ _ => (ts_one (t_ne (qv 9) q_int))) (fun _ _ _ _ _ => (qv 9)) (by decide)))) q_int) (ss_cons (s_set (i := 5) nd rfl (Or.inl rfl) (q_cbl (cr_min rfl) dc_min (by rfl) T.n_min (QN.s (n_lc (own := [("value", 9)]) rfl nd (ic_list (qvl 4)) (blkOk_by (N := N_gathered_steps) (sc := defScope s_gathered_steps) (by decide +kernel)) (fun _ _ _ _ _ => (g_name (i := 9) nd rfl (Or.inl rfl))) (fun _ _ _ _ _ => (ts_one (t_ne (qv 9) q_int))) (fun _ _ _ _ _ => (qv 9)) (by decide)))))
    (ss_cons (s_set (i := 6) nd rfl (Or.inl rfl) (q_index (qvl 4) (qv 5) (pe_bm PySem.F.plainAttrs_list PySem.F.slot_list_index PySem.F.type_list_index mt_index (pv 4) (pa_cons (pv 5) pa_nil))))
    (ss_one (s_for PassesOwn.never rfl (i_range (by rfl) T.n_range (qa_cons (q_cbl call_len_seq dc_lenL (by rfl) T.n_len (qvl 3)) qa_nil)) (g_name (i := 7) nd rfl (Or.inl rfl)) (ss_one (s_if (QW.t (w_and (t_ne (qv 7) (qv 6)) (w_and1 (t_ne (q_ixL (qvl 4) (qv 7)) q_int)))) (ss_cons (s_setIx 3 (qv 3) (qv 7) (q_call D_cell_sum (hr.mono (by decide)) (by rfl) (qa_cons (q_ixL (qvl 3) (qv 7)) (qa_cons (q_ixL (qvl 3) (qv 6)) (qa_cons (q_neg (q_div (q_ixL (qvl 4) (qv 7)) (qv 5))) qa_nil)))))
    (ss_one (s_setIx 4 (qv 4) (qv 7) (q_mod (q_ixL (qvl 4) (qv 7)) (qv 5))))) ss_nil)))))))
    (ss_cons (s_for PassesOwn.never rfl (i_range (by rfl) T.n_range (qa_cons (q_cbl call_len_seq dc_lenL (by rfl) T.n_len (qvl 3)) qa_nil)) (g_name (i := 6) nd rfl (Or.inl rfl)) (ss_one (s_if (t_ne (q_ixL (qvl 4) (qv 6)) q_int) (ss_cons (s_swap2 3 6 (pe_tup (pa_cons (pe_ix ix_list (pv 3) (pv 6) (fun _ _ => rfl)) (pa_cons (pe_ix ix_list (pv 3) pe_int (fun _ _ => rfl)) pa_nil))) (pg_tup rfl (pgs_cons (pg_sub (pv 3) pe_int set_list) (pgs_cons (pg_sub (pv 3) (pv 6) set_list) pgs_nil))))
    (ss_one (s_retL 3 (qv 3) (q_ixL (qvl 4) (qv 6))))) ss_nil)))
    (ss_one (s_retL 3 (qv 3) q_int)))))), ?_⟩
    have hrow : ∀ x ∈ row, Sz 6000 x := fun x hx => sz_up (srow x hx) (by decide)
    have hpw : ∀ k : Nat, 1 ≤ (2 * m) ^ k := fun k => by
      induction k with
      | zero => rw [Int.pow_zero]; omega
      | succ k ih =>
        rw [Int.pow_succ]
        have := Int.mul_le_mul_of_nonneg_left (a := 1) (b := 2 * m) (c := (2 * m) ^ k) (by omega) (by omega)
        omega
    have hMB : M ≤ B := by
      have := Int.mul_le_mul_of_nonneg_left (hpw st.length) hM0
      omega
    refine ⟨by show 3 < 10; decide, few_map (by omega), ?_⟩
    refine lcMap tI (fun v => .int (NT.dt row v % m)) st [] (fun v hv R1 R2 h1 => ?_) ?_
    · exact ⟨row, v, rfl, by omega, hrow, fun y hy => sz_up (natAbs_sz (Int.le_trans (hM v hv y hy) hMB) sB) (by decide), hm, h1⟩
    have e0 : ([] ++ st.map fun v => D.int (NT.dt row v % m)) = iD (st.map fun v => NT.dt row v % m) := by
      rw [List.nil_append]; simp only [iD, List.map_map]; rfl
    rw [e0]
    refine ⟨by show 4 < 10; decide, ?_⟩
    refine ⟨fun γ => ∃ (left : List (List Int)) (vs : List Int) (x5 x6 x7 : Slot), γ = [.im (.lst (st.map tI)), .im (tI row), .im (.int m), .mu (left.map tI), .mu (iD vs), x5, x6, x7, .un, .un] ∧ NT.GInv st row m B left vs,
      fun γ => match γ with | [_, _, _, _, .mu vs, _, _, _, _, _] => ((vs.map fun d : D => match d with | .int i => i | _ => 0).sum).toNat | _ => 0, ⟨st, _, .un, .un, .un, rfl, NT.GInv.start hl hm hM0 hM hB⟩, ?_⟩
    rintro γ ⟨left, vs, x5, x6, x7, rfl, G⟩
    have hlen := G.l1
    have hvl := G.l2
    refine ⟨few_map (by omega), lcFilt D.int (fun v => !decide (v = 0)) D.int vs [] (fun v hv R1 R2 h1 h2 => ?_) ?_⟩
    · show if (!decide (v = 0)) = true then R1 (.int v) else R2
      cases hb : (!decide (v = 0)) with
      | true => exact h1 hb
      | false => exact h2 hb
    refine ifD (fun hgt => ?_) (fun hgt => ?_)
    · -- a turn
      rw [List.nil_append, List.length_map] at hgt
      refine ⟨few_map (by omega), lcFilt D.int (fun v => !decide (v = 0)) D.int vs [] (fun v hv R1 R2 h1 h2 => ?_) ?_⟩
      · show if (!decide (v = 0)) = true then R1 (.int v) else R2
        cases hb : (!decide (v = 0)) with
        | true => exact h1 hb
        | false => exact h2 hb
      refine ⟨vs.filter fun v => !decide (v = 0), rfl, by omega, fun least hle hmin => ?_⟩
      obtain ⟨hle1, hle2⟩ := List.mem_filter.mp hle
      have hl0 : least ≠ 0 := by simpa using hle2
      have hlp : 0 < least := by have := (G.v0 least hle1).1; omega
      refine ⟨vs, rfl, hle1, fun a ha1 ha2 => ?_⟩
      obtain ⟨hav, ha3⟩ := List.getElem?_eq_some_iff.mp ha1
      have hal : a < left.length := by omega
      have hata : NT.at_ vs a = least := by rw [NT.at_get hav]; exact ha3
      have hr1 : ((left.map tI).length : Int) < 2 ^ 62 ∧ -(2 ^ 62) ≤ ((left.map tI).length : Int) := by rw [List.length_map]; omega
      refine ⟨hr1.1, hr1.2, ?_⟩
      rw [show ((left.map tI).length : Int).toNat = left.length by rw [List.length_map]; omega]
      refine forRange (fun i => .int (i : Nat)) left.length (fun i γ => ∃ (lf : List (List Int)) (us : List Int) (x7 : Slot), γ = [.im (.lst (st.map tI)), .im (tI row), .im (.int m), .mu (lf.map tI), .mu (iD us), .im (.int least), .im (.int a), x7, .un, .un] ∧ NT.GInv st row m B lf us ∧ NT.at_ us a = least ∧
        (∀ j, i ≤ j → NT.at_ us j = NT.at_ vs j) ∧ (∀ j, j < i → j ≠ a → NT.at_ us j < least) ∧ ∀ j, NT.at_ us j ≤ NT.at_ vs j) (fun γ h => ?_) (fun i γ hi h N hN => ?_) ⟨left, vs, _, rfl, G, hata, fun _ _ => rfl, fun j hj => by omega, fun _ => Int.le_refl _⟩
      · obtain ⟨lf, us, x7, rfl, G2, h1, h2, h3, h4⟩ := h
        refine ⟨⟨lf, us, _, _, _, rfl, G2⟩, ?_⟩
        have hsum : us.sum < vs.sum := by
          refine NT.sum_lt (by rw [G2.l2, G.l2]) h4 ?_
          apply Classical.byContradiction
          intro hn
          have hz : ∀ j, j ≠ a → NT.at_ vs j = 0 := fun j hj => by
            apply Classical.byContradiction
            intro hne
            have hjv : j < vs.length := by
              rcases Nat.lt_or_ge j vs.length with z | z
              · exact z
              · exact absurd (by simp [NT.at_, List.getD, z]) hne
            have hmem : NT.at_ vs j ∈ vs := NT.at_memlt hjv
            have h5 := hmin _ (List.mem_filter.mpr ⟨hmem, by rw [decide_eq_false hne]; rfl⟩)
            have h6 := h3 j (by omega) hj
            exact hn ⟨j, by omega⟩
          have := NT.two_there hz
          omega
        have hnn : 0 ≤ us.sum := NT.sum_nn fun x hx => (G2.v0 x hx).1
        have es : ∀ ws : List Int, ((iD ws).map fun d : D => match d with | .int i => i | _ => 0) = ws := fun ws => by
          simp only [iD, List.map_map]
          exact List.map_id _
        show (((iD us).map fun d : D => match d with | .int i => i | _ => 0).sum).toNat < (((iD vs).map fun d : D => match d with | .int i => i | _ => 0).sum).toNat
        rw [es, es]; omega
      · obtain ⟨lf, us, x7, rfl, G2, h1, h2, h3, h4⟩ := h
        have l1 := G2.l1
        have l2 := G2.l2
        have hilf : i < lf.length := by omega
        have hius : i < us.length := by omega
        have half : a < lf.length := by omega
        refine ifND (fun hia => ?_) (fun hia => ?_)
        · have hia' : i ≠ a := by omega
          have g1 : (lf.map tI)[i]? = some (tI lf[i]) := by rw [List.getElem?_map, List.getElem?_eq_getElem hilf]; rfl
          have g2 : (lf.map tI)[a]? = some (tI lf[a]) := by rw [List.getElem?_map, List.getElem?_eq_getElem half]; rfl
          have g3 : (iD us)[i]? = some (D.int (NT.at_ us i)) := by rw [List.getElem?_map, List.getElem?_eq_getElem hius, NT.at_get hius]; rfl
          refine atD_ok g3 ?_
          refine ifND (fun hne => ?_) (fun hz => ?_)
          · have hui := G2.v0 _ (NT.at_memlt hius)
            have hge : least ≤ NT.at_ us i := by
              rw [h2 i (Nat.le_refl _)]
              have hiv : i < vs.length := by omega
              refine hmin _ (List.mem_filter.mpr ⟨NT.at_memlt hiv, ?_⟩)
              rw [← h2 i (Nat.le_refl _), decide_eq_false hne]; rfl
            have hui2 : NT.at_ us a ≤ NT.at_ us i := by omega
            have G3 := G2.step hilf half hia' hm (by omega) hui2
            rw [h1] at G3
            refine atD_ok g1 (atD_ok g2 (atD_ok g3 ?_))
            have smu : Sz 400 (NT.at_ us i) := sz_lt sm hui.1 hui.2
            have sle : Sz 400 least := sz_lt sm (by omega) (by omega)
            have hd0 : 0 ≤ NT.at_ us i / least := Int.ediv_nonneg (by omega) (by omega)
            have hd1 : NT.at_ us i / least ≤ NT.at_ us i := Int.ediv_le_self _ (by omega)
            have sB' := fun u hu y hy => sz_up (natAbs_sz (G2.small u hu y hy) sB) (by decide : 5000 ≤ 6000)
            refine ⟨divOk hlp sle, lf[i], lf[a], -(NT.at_ us i / least), rfl, by rw [G2.l3 _ (List.getElem_mem hilf)]; omega, sz_up (a := 400) (sz_le smu (by omega)) (by decide), fun y hy => sB' _ (List.getElem_mem half) y hy, ?_⟩
            refine ⟨⟨by omega, by rw [List.length_map]; omega⟩, ?_⟩
            refine atD_ok g3 ⟨hlp, ?_⟩
            refine ⟨⟨by omega, by rw [List.length_map]; omega⟩, ?_⟩
            refine hN _ ⟨lf.set i (NT.addm lf[i] (-(NT.at_ us i / least)) lf[a]), us.set i (NT.at_ us i % least), .im (.int (i : Nat)), ?_, G3, ?_, fun j hj => ?_, fun j hj hja => ?_, fun j => ?_⟩
            · have c1 : (lf.set i (NT.addm lf[i] (-(NT.at_ us i / least)) lf[a])).map tI = (lf.map tI).set i (tI (NT.addm lf[i] (-(NT.at_ us i / least)) lf[a])) := by rw [List.map_set]
              have c2 : iD (us.set i (NT.at_ us i % least)) = (iD us).set i (.int (NT.at_ us i % least)) := by rw [iD, List.map_set]
              rw [c1, c2]
              have c3 : ((i : Nat) : Int).toNat = i := by omega
              simp only [c3]
              rfl
            · simp only [NT.at_, List.getD, List.getElem?_set_ne hia']; exact h1
            · have : i ≠ j := by omega
              simp only [NT.at_, List.getD, List.getElem?_set_ne this]; exact h2 j (by omega)
            · by_cases e : i = j
              · subst e
                have : NT.at_ (us.set i (NT.at_ us i % least)) i = NT.at_ us i % least := by rw [NT.at_get (by rw [List.length_set]; exact hius), List.getElem_set_self]
                rw [this]; exact Int.emod_lt_of_pos _ hlp
              · have : NT.at_ (us.set i (NT.at_ us i % least)) j = NT.at_ us j := by simp only [NT.at_, List.getD, List.getElem?_set_ne e]
                rw [this]; exact h3 j (by omega) hja
            · by_cases e : i = j
              · subst e
                have : NT.at_ (us.set i (NT.at_ us i % least)) i = NT.at_ us i % least := by rw [NT.at_get (by rw [List.length_set]; exact hius), List.getElem_set_self]
                rw [this]
                have := Int.emod_lt_of_pos (NT.at_ us i) hlp
                have := h2 i (Nat.le_refl _)
                omega
              · have : NT.at_ (us.set i (NT.at_ us i % least)) j = NT.at_ us j := by simp only [NT.at_, List.getD, List.getElem?_set_ne e]
                rw [this]; exact h4 j
          · refine hN _ ⟨lf, us, _, rfl, G2, h1, fun j hj => h2 j (by omega), fun j hj hja => ?_, h4⟩
            by_cases e : i = j
            · subst e; omega
            · exact h3 j (by omega) hja
        · have hia' : i = a := by omega
          subst hia'
          exact hN _ ⟨lf, us, _, rfl, G2, h1, fun j hj => h2 j (by omega), fun j hj hja => h3 j (by omega) hja, h4⟩
    · -- the end
      rw [List.nil_append, List.length_map] at hgt
      have hr1 : ((left.map tI).length : Int) < 2 ^ 62 ∧ -(2 ^ 62) ≤ ((left.map tI).length : Int) := by rw [List.length_map]; omega
      refine ⟨hr1.1, hr1.2, ?_⟩
      rw [show ((left.map tI).length : Int).toNat = left.length by rw [List.length_map]; omega]
      refine forRange (fun i => .int (i : Nat)) left.length (fun i γ => ∃ (x6 : Slot), γ = [.im (.lst (st.map tI)), .im (tI row), .im (.int m), .mu (left.map tI), .mu (iD vs), x5, x6, x7, .un, .un] ∧ ∀ j, j < i → NT.at_ vs j = 0) (fun γ h => ?_) (fun i γ hi h N hN => ?_) ⟨x6, rfl, fun j hj => by omega⟩
      · obtain ⟨x6, rfl, hz⟩ := h
        obtain ⟨f, rest, e1, e2⟩ := G.out0 hm k0 hz
        show Q (left.map tI) (.int 0)
        rw [e1]; exact hq f rest 0 e2
      · obtain ⟨x6, rfl, hz⟩ := h
        have hius : i < vs.length := by omega
        have g3 : (iD vs)[i]? = some (D.int (NT.at_ vs i)) := by rw [List.getElem?_map, List.getElem?_eq_getElem hius, NT.at_get hius]; rfl
        refine atD_ok g3 ?_
        refine ifND (fun hne => ?_) (fun hz0 => ?_)
        · refine ⟨⟨by omega, by rw [List.length_map]; omega⟩, fun d e hd he => ?_⟩
          have c3 : ((i : Nat) : Int).toNat = i := by omega
          rw [c3] at he ⊢
          rw [List.getElem?_map] at hd he
          cases hd0 : left[0]? with
          | none => rw [hd0] at hd; cases hd
          | some d' =>
            cases he0 : left[i]? with
            | none => rw [he0] at he; cases he
            | some e' =>
              rw [hd0] at hd
              rw [he0] at he
              cases hd; cases he
              obtain ⟨f, rest, e1, e2⟩ := G.outAt (by omega) hne hd0 he0
              refine atD_ok g3 ?_
              show Q (((left.map tI).set 0 (tI e')).set i (tI d')) (.int (NT.at_ vs i))
              rw [← List.map_set, ← List.map_set, e1]
              exact hq f rest _ e2
        · refine hN _ ⟨_, rfl, fun j hj => ?_⟩
          by_cases e : j = i
          · subst e; exact hz0
          · exact hz j (by omega)
end
end SP
/-! F8 -/
set_option Elab.async false
set_option linter.all false
set_option maxRecDepth 100000
set_option maxHeartbeats 4100000
set_option exponentiation.threshold 10000
namespace SP
open PySem PySem.Spec L2 PyProof.Rows DL
/-- a cell and steps, all numbers below 2^s -/
structure CS (d k s : Nat) (cell : List Int) (st : List (List Int)) : Prop where
  lc : cell.length = d
  ls : st.length = k
  l3 : ∀ u ∈ st, u.length = d
  zc : ∀ x ∈ cell, Sz s x
  zs : ∀ u ∈ st, ∀ x ∈ u, Sz s x
abbrev csD (cell : List Int) (st : List (List Int)) : D := .tup [tI cell, .lst (st.map tI)]
theorem sz_add {a : Nat} {i j : Int} (hi : Sz a i) (hj : Sz a j) : Sz (a + 1) (i + j) := by
  have h := Int.natAbs_add_le i j
  have e : 2 ^ (a + 1) = 2 ^ a * 2 := Nat.pow_succ ..
  show (i + j).natAbs < 2 ^ (a + 1)
  have h1 : i.natAbs < 2 ^ a := hi
  have h2 : j.natAbs < 2 ^ a := hj
  omega
theorem pow_sz (a : Nat) : Sz (a + 1) ((2 : Int) ^ a) := by
  show ((2 : Int) ^ a).natAbs < 2 ^ (a + 1)
  rw [Int.natAbs_pow]
  exact (Nat.pow_lt_pow_right (by decide) (by omega))
/-- the bound behind the gathering -/
theorem gath_B {m : Int} {μ s k : Nat} (hm : 0 < m) (sm : Sz μ m) (hk : k ≤ 3) : (2 : Int) ^ s * (2 * m) ^ k ≤ 2 ^ (s + 3 * (μ + 1)) := by
  have h1 : m ≤ 2 ^ μ := by
    have : m.natAbs < 2 ^ μ := sm
    have h2 : ((2 ^ μ : Nat) : Int) = (2 : Int) ^ μ := by rw [Int.natCast_pow]; rfl
    omega
  have h2 : 2 * m ≤ 2 ^ (μ + 1) := by rw [Int.pow_succ]; omega
  have h3 : ∀ k : Nat, (2 * m) ^ k ≤ 2 ^ ((μ + 1) * k) := fun k => by
    induction k with
    | zero => simp
    | succ k ih =>
      rw [Int.pow_succ, Nat.mul_succ, Int.pow_add]
      have p1 : 0 ≤ (2 : Int) ^ ((μ + 1) * k) := Int.pow_nonneg (by decide)
      calc (2 * m) ^ k * (2 * m) ≤ 2 ^ ((μ + 1) * k) * (2 * m) := Int.mul_le_mul_of_nonneg_right ih (by omega)
        _ ≤ 2 ^ ((μ + 1) * k) * 2 ^ (μ + 1) := Int.mul_le_mul_of_nonneg_left h2 p1
  rw [Int.pow_add]
  refine Int.mul_le_mul_of_nonneg_left ?_ (Int.pow_nonneg (by decide))
  refine Int.le_trans (h3 k) ?_
  have h4 : (μ + 1) * k ≤ 3 * (μ + 1) := by rw [Nat.mul_comm]; exact Nat.mul_le_mul_right _ hk
  rw [show (2 : Int) ^ ((μ + 1) * k) = ((2 ^ ((μ + 1) * k) : Nat) : Int) by rw [Int.natCast_pow]; rfl, show (2 : Int) ^ (3 * (μ + 1)) = ((2 ^ (3 * (μ + 1)) : Nat) : Int) by rw [Int.natCast_pow]; rfl]
  exact Int.ofNat_le.mpr (Nat.pow_le_pow_right (by decide) h4)
theorem addm_mem {a b : List Int} {k x : Int} (h : x ∈ NT.addm a k b) : ∃ y z, y ∈ a ∧ z ∈ b ∧ x = y + k * z := by
  rcases List.mem_map.mp h with ⟨p, hp, e⟩
  obtain ⟨h1, h2⟩ := List.of_mem_zip hp
  exact ⟨p.1, p.2, h1, h2, e.symm⟩
section
variable {base : Heap} {P : Program} {w : World} {K : PySem.W.Frag} {mg : Str → Option Value}
abbrev s_narrowed : Stmt := top 47
abbrev N_narrowed : List Str := ["cell", "steps", "row", "r", "modulus", "left", "value", "wanted", "common", "order", "many", "first", "number"]
theorem sc_narrowed : FnScope N_narrowed ["cell", "steps", "row", "r", "modulus"] (defScope s_narrowed) := ⟨rfl, rfl, rfl, by decide +kernel, rfl, by decide +kernel, by decide +kernel⟩

def wd_narrowed : List D → (D → Prop) → Prop := fun ds Q => ∃ (d k s μ : Nat) (cell : List Int) (st : List (List Int)) (row : List Int) (r m : Int), ds = [tI cell, .lst (st.map tI), tI row, .int r, .int m] ∧ CS d k s cell st ∧ 0 < k ∧ k ≤ 3 ∧ d ≤ 3 ∧ row.length = d ∧ 0 < m ∧ Sz μ m ∧ μ ≤ 300 ∧ s ≤ 3000 ∧ 0 < μ ∧ (∀ x ∈ row, Sz 400 x) ∧
  (NT.NoFit cell st row r m → Q .non) ∧ ∀ cell' st', NT.Fit cell st row r m cell' st' → CS d k (s + (4 * μ + 6)) cell' st' → Q (csD cell' st')
theorem ok_narrowed (T : Txt mg) (F : FAt K mg "narrowed" s_narrowed) (D_inverse_of : Def P w K mg base 1 "inverse_of" ["number", "modulus"] (spD K wd_inverse_of)) (D_product_at : Def P w K mg base 1 "product_at" ["row", "cell"] (spD K wd_product_at)) (D_cell_sum : Def P w K mg base 1 "cell_sum" ["one", "other", "many"] (spD K wd_cell_sum))
    (D_gathered_steps : Def P w K mg base 2 "gathered_steps" ["steps", "row", "modulus"] (spL K wd_gathered_steps)) : Def P w K mg base 3 "narrowed" ["cell", "steps", "row", "r", "modulus"] (spD K wd_narrowed) := by
  refine def_of F (fun f fd G => fn_D G sc_narrowed (fun ds Q h => ?_) (fun cdv A outer s0 H E hr ds Q h => ?_)) (fun _ _ _ _ _ _ us hl => match us, hl with | [_, _, _, _, _], _ => rfl)
  · obtain ⟨d, k, s, μ, cell, st, row, r, m, rfl, _⟩ := h; rfl
  · obtain ⟨d, k, s, μ, cell, st, row, r, m, rfl, C, k0, k3, d3, hrow, hm, sm, hμ, hs, hμ0, srow, hno, hyes⟩ := h
    have nd := sc_narrowed.nd
    refine ⟨_, _, (ss_cons (s_asgL (i := 5) (j := 6) D_gathered_steps (hr.mono (by decide)) (by rfl) (qa_cons (qv 1) (qa_cons (qv 2) (qa_cons (qv 4) qa_nil))) rfl nd rfl rfl (Or.inl rfl) (Or.inl rfl))
    (ss_cons (s_set (i := 7) nd rfl (Or.inl rfl) (q_mod (q_sub (qv 3) (q_call D_product_at (hr.mono (by decide)) (by rfl) (qa_cons (qv 2) (qa_cons (qv 0) qa_nil)))) (qv 4)))
    (ss_cons (s_set (i := 8) nd rfl (Or.inl rfl) (q_gcd (by rfl) T.g_gcd (qa_cons (qv 6) (qa_cons (qv 4) qa_nil))))
    (ss_cons (s_if (t_ne (q_mod (qv 7) (qv 8)) q_int) (ss_one (s_ret q_non)) ss_nil)
    (ss_cons (s_set (i := 9) nd rfl (Or.inr rfl) (q_div (qv 4) (qv 8)))
    (ss_cons (s_set (i := 10) nd rfl (Or.inl rfl) (q_mod (q_mul (q_div (qv 7) (qv 8)) (q_call D_inverse_of (hr.mono (by decide)) (by rfl) (qa_cons (q_div (qv 6) (qv 8)) (qa_cons (qv 9) qa_nil)))) (qv 9)))
    (ss_cons (s_set (i := 11) nd rfl (Or.inl rfl) (q_ixL (qvl 5) q_int))
    (ss_cons (s_setIx 5 (qv 5) q_int (q_ctl call_tuple_of dc_tupL (by rfl) T.n_tuple (QN.s (n_lc (own := [("number", 12)]) rfl nd (QI.c (i_tup (qv 11))) (blkOk_by (N := N_narrowed) (sc := defScope s_narrowed) (by decide +kernel)) (fun _ _ _ _ _ => (g_name (i := 12) nd rfl (Or.inl rfl))) (fun _ _ _ _ _ => ts_nil) (fun _ _ _ _ _ => (q_mul (qv 9) (qv 12))) (by decide)))))
    (ss_one (s_frz 5 (s_ret (q_tup (qa_cons (q_call D_cell_sum (hr.mono (by decide)) (by rfl) (qa_cons (qv 0) (qa_cons (qv 11) (qa_cons (qv 10) qa_nil)))) (qa_cons (qv 5) qa_nil)))))))))))))), ?_⟩
    have sm4 : Sz 400 m := sz_up sm (by omega)
    have p2 : ∀ n : Nat, (2 : Int) ^ n = ((2 ^ n : Nat) : Int) := fun n => by rw [Int.natCast_pow]; rfl
    refine ⟨st, row, m, 2 ^ s, 2 ^ (s + 3 * (μ + 1)), rfl, by rw [C.ls]; omega, by rw [C.ls]; omega, by omega, fun v hv => by rw [C.l3 v hv, hrow], hm, sm4, srow, Int.pow_nonneg (by decide), fun v hv x hx => ?_, ?_, sz_up (pow_sz _) (by omega), fun f rest v G => ?_⟩
    · have : x.natAbs < 2 ^ s := C.zs v hv x hx
      rw [p2]; omega
    · rw [C.ls]; exact gath_B hm sm k3
    have srow6 : ∀ x ∈ row, Sz 6000 x := fun x hx => sz_up (srow x hx) (by decide)
    have hg0 : 0 < NT.gcd v m := NT.gcd_pos (by omega)
    have hgm : NT.gcd v m ≤ m := Int.le_of_dvd hm (NT.gcd_dr v m)
    have sg : Sz 400 (NT.gcd v m) := sz_le sm4 (by omega)
    refine ⟨by show 5 < 13; decide, ?_⟩
    refine ⟨row, cell, rfl, by omega, srow6, fun y hy => sz_up (C.zc y hy) (by omega), hm, ?_⟩
    have w0 := Int.emod_nonneg (r - NT.dt row cell) (by omega : m ≠ 0)
    have w1 := Int.emod_lt_of_pos (r - NT.dt row cell) hm
    refine ⟨hg0, ifND (fun hn => ?_) (fun h0 => ?_)⟩
    · exact hno (NT.nofit G hn)
    · -- order
      have ho : NT.gcd v m * (m / NT.gcd v m) = m := Int.mul_ediv_cancel' (NT.gcd_dr v m)
      have hv : NT.gcd v m * (v / NT.gcd v m) = v := Int.mul_ediv_cancel' (NT.gcd_dl v m)
      have o0 : 0 < m / NT.gcd v m := Int.ediv_pos_of_pos_of_dvd hm (by omega) (NT.gcd_dr v m)
      have o1 : m / NT.gcd v m ≤ m := Int.ediv_le_self _ (by omega)
      have hcop : NT.Cop (v / NT.gcd v m) (m / NT.gcd v m) := by
        obtain ⟨x, y, e⟩ := NT.bez v m
        refine ⟨x, y, ?_⟩
        have e2 : NT.gcd v m * (v / NT.gcd v m * x + m / NT.gcd v m * y) = NT.gcd v m * 1 := by
          have e3 : NT.gcd v m * (v / NT.gcd v m * x + m / NT.gcd v m * y) = NT.gcd v m * (v / NT.gcd v m) * x + NT.gcd v m * (m / NT.gcd v m) * y := by grind
          rw [e3, hv, ho, e]; omega
        exact Int.eq_of_mul_eq_mul_left (by omega) e2
      have so : Sz 400 (m / NT.gcd v m) := sz_le sm4 (by omega)
      refine ⟨divOk hg0 sg, divOk hg0 sg, divOk hg0 sg, ?_⟩
      refine ⟨v / NT.gcd v m, m / NT.gcd v m, rfl, o0, sz_up so (by decide), fun inv i0 i1 i2 => ?_⟩
      have F1 := NT.fit G hm (by rw [C.lc, hrow]) rfl h0 (i2 hcop)
      have q0 : 0 ≤ (r - NT.dt row cell) % m / NT.gcd v m := Int.ediv_nonneg w0 (by omega)
      have q1 : (r - NT.dt row cell) % m / NT.gcd v m ≤ (r - NT.dt row cell) % m := Int.ediv_le_self _ w0
      have sq : Sz 400 ((r - NT.dt row cell) % m / NT.gcd v m) := sz_le sm4 (by omega)
      refine ⟨mulOk sq (sz_lt so i0 i1), o0, ?_⟩
      generalize hmany : (r - NT.dt row cell) % m / NT.gcd v m * inv % (m / NT.gcd v m) = many at *
      have n0 : 0 ≤ many := by rw [← hmany]; exact Int.emod_nonneg _ (by omega)
      have n1 : many < m / NT.gcd v m := by rw [← hmany]; exact Int.emod_lt_of_pos _ o0
      have szf : ∀ u ∈ f :: rest, ∀ x ∈ u, Sz (s + 3 * (μ + 1) + 1) x := fun u hu x hx => natAbs_sz (G.sz u hu x hx) (pow_sz _)
      have hlf : f.length = row.length := G.l3 f List.mem_cons_self
      refine atD_ok (k := 0) (d := tI f) rfl ?_
      refine ⟨few_map (by omega), lcMap D.int (fun x => .int (m / NT.gcd v m * x)) f [] (fun x hx R1 R2 h1 => ⟨mulOk (b := 5000) so (sz_up (szf f List.mem_cons_self x hx) (by omega)), h1⟩) ?_⟩
      have e2 : ([] ++ f.map fun x => D.int (m / NT.gcd v m * x)) = iD (f.map fun x => m / NT.gcd v m * x) := by
        rw [List.nil_append]; simp only [iD, List.map_map]; rfl
      rw [e2]
      refine ⟨⟨by omega, by show (0 : Int) < ((tI f :: rest.map tI).length : Nat); rw [List.length_cons]; omega⟩, ?_⟩
      have so2 : Sz μ (m / NT.gcd v m) := sz_le sm (by omega)
      refine ⟨cell, f, many, (by rw [← hmany]; rfl), by rw [C.lc]; omega, sz_up (sz_lt so n0 n1) (by decide), fun y hy => sz_up (szf f List.mem_cons_self y hy) (by omega), ?_⟩
      refine ⟨rfl, ?_⟩
      refine hyes _ _ F1 ⟨by rw [F1.lc, hrow], by rw [F1.ls, C.ls], fun u hu => by rw [F1.l3 u hu, hrow], fun x hx => ?_, fun u hu x hx => ?_⟩
      · obtain ⟨y, z, hy, hz, rfl⟩ := addm_mem hx
        have h1 : Sz (s + (4 * μ + 5)) y := sz_up (C.zc y hy) (by omega)
        have h2 : Sz (s + (4 * μ + 5)) (many * z) := sz_up (szmul (sz_lt so2 n0 n1) (szf f List.mem_cons_self z hz)) (by omega)
        exact sz_up (sz_add h1 h2) (by omega)
      · rcases List.mem_cons.mp hu with e | e
        · subst e
          obtain ⟨z, hz, rfl⟩ := List.mem_map.mp hx
          exact sz_up (szmul so2 (szf f List.mem_cons_self z hz)) (by omega)
        · exact sz_up (szf u (List.mem_cons_of_mem _ e) x hx) (by omega)
end
end SP
/-! F9 -/
set_option Elab.async false
set_option linter.all false
set_option maxRecDepth 100000
set_option maxHeartbeats 4100000
set_option exponentiation.threshold 10000
namespace SP
open PySem PySem.Spec L2 PyProof.Rows DL
theorem rep0 : ∀ d : Nat, (List.replicate d [D.int 0]).flatten = iD (List.replicate d 0)
  | 0 => rfl
  | d + 1 => by rw [List.replicate_succ, List.flatten_cons, rep0 d]; rfl
theorem cs_start (d : Nat) : CS d d 2 (List.replicate d 0) (NT.units d) where
  lc := by simp
  ls := by simp [NT.units]
  l3 := fun u hu => by
    obtain ⟨i, _, rfl⟩ := List.mem_map.mp hu
    simp
  zc := fun x hx => by
    rw [(List.mem_replicate.mp hx).2]; decide
  zs := fun u hu x hx => by
    obtain ⟨i, _, rfl⟩ := List.mem_map.mp hu
    rcases List.mem_map.mp hx with ⟨a, _, rfl⟩
    split <;> decide
theorem VS.c4 {e : Nat → Nat} {c : List Int} {r : Int} (v : VS e c r) : ∀ x ∈ c, Sz 400 x := fun x hx => sz_up (sz_lt v.sz (v.c0 x hx).1 (v.c0 x hx).2) (by decide)
section
variable {base : Heap} {P : Program} {w : World} {K : PySem.W.Frag} {mg : Str → Option Value}
abbrev s_cells_on : Stmt := top 48
abbrev N_cells_on : List Str := ["stripes", "breadth", "found", "period", "row", "r"]
theorem sc_cells_on : FnScope N_cells_on ["stripes", "breadth"] (defScope s_cells_on) := ⟨rfl, rfl, rfl, by decide +kernel, rfl, by decide +kernel, by decide +kernel⟩

def wd_cells_on : List D → (D → Prop) → Prop := fun ds Q =>
  (∃ (e f : Nat → Nat) (c b : List Int) (r s : Int), ds = [.tup [sD (NT.pr e NT.PL) c r, sD (NT.pr f NT.PL) b s], .int c.length] ∧ VS e c r ∧ VS f b s ∧ c.length = b.length ∧
    (NT.NeverP (NT.pr e NT.PL) c r (NT.pr f NT.PL) b s → Q .non) ∧ ∀ cell st, cell.length = c.length → NT.pr e NT.PL ∣ NT.dt c cell - r → NT.pr f NT.PL ∣ NT.dt b cell - s → (∀ x ∈ cell, Sz 6000 x) → Q (csD cell st)) ∨
  (∃ (e : Nat → Nat) (c : List Int) (r : Int), ds = [.lst [sD (NT.pr e NT.PL) c r], .int c.length] ∧ VS e c r ∧ ∀ cell st, Q (csD cell st))
theorem ok_cells_on (T : Txt mg) (F : FAt K mg "cells_on" s_cells_on) (D_unit_steps : Def P w K mg base 1 "unit_steps" ["breadth"] (spD K wd_unit_steps)) (D_narrowed : Def P w K mg base 3 "narrowed" ["cell", "steps", "row", "r", "modulus"] (spD K wd_narrowed)) :
    Def P w K mg base 4 "cells_on" ["stripes", "breadth"] (spD K wd_cells_on) := by
  refine def_of F (fun fa fd G => fn_D G sc_cells_on (fun ds Q h => ?_) (fun cdv A outer s0 H E hr ds Q h => ?_)) (fun _ _ _ _ _ _ us hl => match us, hl with | [_, _], _ => rfl)
  · rcases h with ⟨e, f, c, b, r, s, rfl, _⟩ | ⟨e, c, r, rfl, _⟩ <;> rfl
  · have nd := sc_cells_on.nd
    rcases h with ⟨e, f, c, b, r, s, rfl, v1, v2, hl, hno, hyes⟩ | ⟨e, c, r, rfl, v1, hyes⟩
    · refine ⟨_, _, (ss_cons (s_set (i := 2) nd rfl (Or.inl rfl) (q_tup (qa_cons (q_repT (q_tup (qa_cons q_int qa_nil)) (qv 1)) (qa_cons (q_call D_unit_steps (hr.mono (by decide)) (by rfl) (qa_cons (qv 1) qa_nil)) qa_nil))))
    (ss_cons (s_for PassesOwn.never rfl (i_tup (qv 0)) (g_tup rfl (gs_cons (g_name (i := 3) nd rfl (Or.inl rfl)) (gs_cons (g_name (i := 4) nd rfl (Or.inl rfl)) (gs_cons (g_name (i := 5) nd rfl (Or.inl rfl)) gs_nil)))) (ss_one (s_if (t_notN (qv 2)) (ss_one (s_set (i := 2) nd rfl (Or.inl rfl) (q_call D_narrowed (hr.mono (by decide)) (by rfl) (qa_cons (q_ixT (qv 2) q_int) (qa_cons (q_ixT (qv 2) q_int) (qa_cons (qv 4) (qa_cons (qv 5) (qa_cons (qv 3) qa_nil)))))))) ss_nil)))
    (ss_one (s_ret (qv 2))))), ?_⟩
      have l1 := v1.l1
      have l3 := v1.l3
      refine ⟨rfl, ⟨by omega, by omega, by simp, rfl⟩, c.length, rfl, by omega, rfl, ?_⟩
      rw [show ((c.length : Nat) : Int).toNat = c.length by omega, rep0]
      refine ⟨c.length, c.length, 2, 140, List.replicate c.length 0, NT.units c.length, c, r, NT.pr e NT.PL, rfl, cs_start _, by omega, by omega, by omega, rfl, v1.pos, v1.sz, by decide, by decide, by decide, v1.c4, fun hn => (NT.nofit_uni v1.uni hn).elim, fun cell st F1 C1 => ?_⟩
      refine ⟨c.length, c.length, 568, 140, cell, st, b, s, NT.pr f NT.PL, rfl, C1, by omega, by omega, by omega, by omega, v2.pos, v2.sz, by decide, by decide, by decide, v2.c4, fun hn => ?_, fun cell' st' F2 C2 => ?_⟩
      · exact hno (NT.nofit_never F1 hn)
      · obtain ⟨h1, h2⟩ := NT.fit_two F1 F2
        exact hyes cell' st' (by rw [F2.lc]; omega) h1 h2 fun x hx => sz_up (C2.zc x hx) (by decide)
    · refine ⟨_, _, (ss_cons (s_set (i := 2) nd rfl (Or.inl rfl) (q_tup (qa_cons (q_repT (q_tup (qa_cons q_int qa_nil)) (qv 1)) (qa_cons (q_call D_unit_steps (hr.mono (by decide)) (by rfl) (qa_cons (qv 1) qa_nil)) qa_nil))))
    (ss_cons (s_for PassesOwn.never rfl (i_list (qv 0)) (g_tup rfl (gs_cons (g_name (i := 3) nd rfl (Or.inl rfl)) (gs_cons (g_name (i := 4) nd rfl (Or.inl rfl)) (gs_cons (g_name (i := 5) nd rfl (Or.inl rfl)) gs_nil)))) (ss_one (s_if (t_notN (qv 2)) (ss_one (s_set (i := 2) nd rfl (Or.inl rfl) (q_call D_narrowed (hr.mono (by decide)) (by rfl) (qa_cons (q_ixT (qv 2) q_int) (qa_cons (q_ixT (qv 2) q_int) (qa_cons (qv 4) (qa_cons (qv 5) (qa_cons (qv 3) qa_nil)))))))) ss_nil)))
    (ss_one (s_ret (qv 2))))), ?_⟩
      have l1 := v1.l1
      have l3 := v1.l3
      refine ⟨rfl, ⟨by omega, by omega, by simp, rfl⟩, c.length, rfl, by omega, rfl, ?_⟩
      rw [show ((c.length : Nat) : Int).toNat = c.length by omega, rep0]
      refine ⟨c.length, c.length, 2, 140, List.replicate c.length 0, NT.units c.length, c, r, NT.pr e NT.PL, rfl, cs_start _, by omega, by omega, by omega, rfl, v1.pos, v1.sz, by decide, by decide, by decide, v1.c4, fun hn => (NT.nofit_uni v1.uni hn).elim, fun cell st F1 C1 => ?_⟩
      exact hyes cell st
abbrev s_common_period : Stmt := top 50
abbrev N_common_period : List Str := ["stripes", "found", "period", "row", "r"]
theorem sc_common_period : FnScope N_common_period ["stripes"] (defScope s_common_period) := ⟨rfl, rfl, rfl, by decide +kernel, rfl, by decide +kernel, by decide +kernel⟩

def wd_common_period : List D → (D → Prop) → Prop := fun ds Q => ∃ (m n r s : Int) (c b : List Int), ds = [.lst [sD m c r, sD n b s]] ∧ 0 < m ∧ 0 < n ∧ Sz 400 m ∧ Sz 400 n ∧ Q (.int (NT.lcm m n))
theorem ok_common_period (T : Txt mg) (F : FAt K mg "common_period" s_common_period) : Def P w K mg base 1 "common_period" ["stripes"] (spD K wd_common_period) := by
  refine def_of F (fun fa fd G => fn_D G sc_common_period (fun ds Q h => ?_) (fun cdv A outer s0 H E hr ds Q h => ?_)) (fun _ _ _ _ _ _ us hl => match us, hl with | [_], _ => rfl)
  · obtain ⟨m, n, r, s, c, b, rfl, _⟩ := h; rfl
  · obtain ⟨m, n, r, s, c, b, rfl, hm, hn, sm, sn, hq⟩ := h
    have nd := sc_common_period.nd
    refine ⟨_, _, (ss_cons (s_set (i := 1) nd rfl (Or.inl rfl) q_int)
    (ss_cons (s_for PassesOwn.never rfl (i_list (qv 0)) (g_tup rfl (gs_cons (g_name (i := 2) nd rfl (Or.inl rfl)) (gs_cons (g_name (i := 3) nd rfl (Or.inl rfl)) (gs_cons (g_name (i := 4) nd rfl (Or.inl rfl)) gs_nil)))) (ss_one (s_set (i := 1) nd rfl (Or.inl rfl) (q_mul (q_div (qv 1) (q_gcd (by rfl) T.g_gcd (qa_cons (qv 1) (qa_cons (qv 2) qa_nil)))) (qv 2)))))
    (ss_one (s_ret (qv 1))))), ?_⟩
    have g1 : NT.gcd 1 m = 1 := NT.dvd_one (NT.gcd_dl 1 m) (NT.gcd_nn 1 m)
    have s1 : Sz 400 (1 : Int) := by decide
    have e1 : (1 : Int) / NT.gcd 1 m * m = m := by rw [g1]; omega
    have p1 : 0 < NT.gcd 1 m := by rw [g1]; decide
    have s1' : Sz 400 (NT.gcd 1 m) := by rw [g1]; exact s1
    have s1'' : Sz 400 (1 / NT.gcd 1 m) := by rw [g1]; exact s1
    refine ⟨divOk p1 s1', mulOk s1'' sm, ?_⟩
    have hg : 0 < NT.gcd m n := NT.gcd_pos (by omega)
    have hgn : NT.gcd m n ≤ n := Int.le_of_dvd hn (NT.gcd_dr m n)
    have hgm : m / NT.gcd m n ≤ m := Int.ediv_le_self _ (by omega)
    have hg0 : 0 ≤ m / NT.gcd m n := Int.ediv_nonneg (by omega) (by omega)
    show CDivW (1 / NT.gcd 1 m * m) (NT.gcd (1 / NT.gcd 1 m * m) n) ∧ CMulW (1 / NT.gcd 1 m * m / NT.gcd (1 / NT.gcd 1 m * m) n) n ∧ Q (.int (1 / NT.gcd 1 m * m / NT.gcd (1 / NT.gcd 1 m * m) n * n))
    rw [e1]
    exact ⟨divOk hg (sz_le sn (by omega)), mulOk (sz_le sm (by omega)) sn, hq⟩
abbrev s_relations_of : Stmt := top 51
abbrev N_relations_of : List Str := ["stripes", "breadth", "period", "many", "cell", "steps", "i", "row", "near"]
theorem sc_relations_of : FnScope N_relations_of ["stripes", "breadth"] (defScope s_relations_of) := ⟨rfl, rfl, rfl, by decide +kernel, rfl, by decide +kernel, by decide +kernel⟩

def wd_relations_of : List D → (D → Prop) → Prop := fun ds Q => ∃ (e f : Nat → Nat) (c b : List Int) (r s : Int), ds = [.lst [sD (NT.pr e NT.PL) c r, sD (NT.pr f NT.PL) b s], .int c.length] ∧ VS e c r ∧ VS f b s ∧ c.length = b.length ∧
  ∀ st, st.length = 2 → (∀ u ∈ st, u.length = 2) → (∀ u ∈ st, ∀ x ∈ u, Sz 6000 x) → NT.RelSt (NT.pr e NT.PL) (NT.pr f NT.PL) c b c.length st →
    Q (.tup [.lst (st.map tI), tI [NT.lcm (NT.pr e NT.PL) (NT.pr f NT.PL) / NT.pr e NT.PL * r, NT.lcm (NT.pr e NT.PL) (NT.pr f NT.PL) / NT.pr f NT.PL * s], .int (NT.lcm (NT.pr e NT.PL) (NT.pr f NT.PL))])
theorem ok_relations_of (T : Txt mg) (F : FAt K mg "relations_of" s_relations_of) (D_unit_steps : Def P w K mg base 1 "unit_steps" ["breadth"] (spD K wd_unit_steps)) (D_narrowed : Def P w K mg base 3 "narrowed" ["cell", "steps", "row", "r", "modulus"] (spD K wd_narrowed))
    (D_common_period : Def P w K mg base 1 "common_period" ["stripes"] (spD K wd_common_period)) : Def P w K mg base 4 "relations_of" ["stripes", "breadth"] (spD K wd_relations_of) := by
  refine def_of F (fun fa fd G => fn_D G sc_relations_of (fun ds Q h => ?_) (fun cdv A outer s0 H E hr ds Q h => ?_)) (fun _ _ _ _ _ _ us hl => match us, hl with | [_, _], _ => rfl)
  · obtain ⟨e, f, c, b, r, s, rfl, _⟩ := h; rfl
  · obtain ⟨e, f, c, b, r, s, rfl, v1, v2, hl, hq⟩ := h
    have nd := sc_relations_of.nd
    refine ⟨_, _, (ss_cons (s_asg (q_tup (qa_cons (q_call D_common_period (hr.mono (by decide)) (by rfl) (qa_cons (qv 0) qa_nil)) (qa_cons (q_cbl call_len_seq dc_lenL (by rfl) T.n_len (qvl 0)) qa_nil))) (g_tup rfl (gs_cons (g_name (i := 2) nd rfl (Or.inr rfl)) (gs_cons (g_name (i := 3) nd rfl (Or.inl rfl)) gs_nil))))
    (ss_cons (s_par (i := 4) (j := 5) rfl nd rfl rfl (by decide) rfl rfl (qa_cons (q_repT (q_tup (qa_cons q_int qa_nil)) (qv 3)) (qa_cons (q_call D_unit_steps (hr.mono (by decide)) (by rfl) (qa_cons (qv 3) qa_nil)) qa_nil)) rfl)
    (ss_cons (s_for PassesOwn.never rfl (i_range (by rfl) T.n_range (qa_cons (qv 1) qa_nil)) (g_name (i := 6) nd rfl (Or.inr rfl)) (ss_cons (s_set (i := 7) nd rfl (Or.inl rfl) (q_ctl call_tuple_of dc_tupL (by rfl) T.n_tuple (QN.s (n_lc (own := [("near", 8)]) rfl nd (ic_list (qvl 0)) (blkOk_by (N := N_relations_of) (sc := defScope s_relations_of) (by decide +kernel)) (fun _ _ _ _ _ => (g_name (i := 8) nd rfl (Or.inl rfl))) (fun _ _ _ _ _ => ts_nil) (fun _ _ _ _ _ => (q_mul (q_div (qv 2) (q_ixT (qv 8) q_int)) (q_ixT (q_ixT (qv 8) q_int) (qv 6)))) (by decide)))))
    (ss_one (s_set (i := 5) nd rfl (Or.inl rfl) (q_ixT (q_call D_narrowed (hr.mono (by decide)) (by rfl) (qa_cons (qv 4) (qa_cons (qv 5) (qa_cons (qv 7) (qa_cons q_int (qa_cons (qv 2) qa_nil)))))) q_int)))))
    (ss_one (s_ret (q_tup (qa_cons (qv 5) (qa_cons (q_ctl call_tuple_of dc_tupL (by rfl) T.n_tuple (QN.s (n_lc (own := [("near", 8)]) rfl nd (ic_list (qvl 0)) (blkOk_by (N := N_relations_of) (sc := defScope s_relations_of) (by decide +kernel)) (fun _ _ _ _ _ => (g_name (i := 8) nd rfl (Or.inl rfl))) (fun _ _ _ _ _ => ts_nil) (fun _ _ _ _ _ => (q_mul (q_div (qv 2) (q_ixT (qv 8) q_int)) (q_ixT (qv 8) q_int))) (by decide)))) (qa_cons (qv 2) qa_nil))))))))), ?_⟩
    have l1 := v1.l1
    have l3 := v1.l3
    have hm := v1.pos
    have hn := v2.pos
    have sm : Sz 400 (NT.pr e NT.PL) := sz_up v1.sz (by decide)
    have sn : Sz 400 (NT.pr f NT.PL) := sz_up v2.sz (by decide)
    refine ⟨_, _, r, s, c, b, rfl, hm, hn, sm, sn, rfl, ?_⟩
    refine ⟨rfl, ⟨by show (1 : Int) ≤ 2; decide, by show (2 : Int) ≤ 1000; decide, by simp, rfl⟩, 2, rfl, by decide, ?_⟩
    obtain ⟨g, u, v, g0, u0, v0, em, en, eP, e1, e2, P0⟩ := NT.lcm_eq hm hn
    generalize hPP : NT.lcm (NT.pr e NT.PL) (NT.pr f NT.PL) = PP at *
    have hg1 : g ≤ NT.pr e NT.PL := Int.le_of_dvd hm ⟨u, em⟩
    have hu1 : u ≤ NT.pr e NT.PL := Int.le_of_dvd hm ⟨g, by rw [em, Int.mul_comm]⟩
    have hv1 : v ≤ NT.pr f NT.PL := Int.le_of_dvd hn ⟨g, by rw [en, Int.mul_comm]⟩
    have sP : Sz 280 PP := by rw [eP, ← em]; exact szmul v1.sz (sz_le v2.sz (by omega))
    have su : Sz 140 u := sz_le v1.sz (by omega)
    have sv : Sz 140 v := sz_le v2.sz (by omega)
    have hr1 : ((c.length : Nat) : Int) < 2 ^ 62 ∧ -(2 ^ 62) ≤ ((c.length : Nat) : Int) := by omega
    refine ⟨hr1.1, hr1.2, ?_⟩
    rw [show ((c.length : Nat) : Int).toNat = c.length by omega]
    refine forRange (fun i => .int (i : Nat)) c.length (fun i γ => ∃ (st : List (List Int)) (x6 x7 : Slot), γ = [.im (.lst [sD (NT.pr e NT.PL) c r, sD (NT.pr f NT.PL) b s]), .im (.int c.length), .im (.int PP), .im (.int 2), .im (tI [0, 0]), .im (.lst (st.map tI)), x6, x7, .un] ∧
      CS 2 2 (2 + i * 1126) [0, 0] st ∧ NT.RelSt (NT.pr e NT.PL) (NT.pr f NT.PL) c b i st) (fun γ h => ?_) (fun i γ hi h N hN => ?_) ⟨NT.units 2, .un, .un, rfl, cs_start 2, NT.RelSt.start _ _ _ _⟩
    · obtain ⟨st, x6, x7, rfl, C, R⟩ := h
      refine ⟨rfl, divOk hm sm, ?_⟩
      show CMulW (PP / NT.pr e NT.PL) r ∧ CDivW PP (NT.pr f NT.PL) ∧ CMulW (PP / NT.pr f NT.PL) s ∧ _ ∧ _
      refine ⟨mulOk (by rw [e1]; exact sv) (sz_lt v1.sz v1.r0 v1.r1), divOk hn sn, mulOk (by rw [e2]; exact su) (sz_lt v2.sz v2.r0 v2.r1), rfl, ?_⟩
      exact hq st C.ls C.l3 (fun u hu x hx => sz_up (C.zs u hu x hx) (by omega)) R
    · obtain ⟨st, x6, x7, rfl, C, R⟩ := h
      have hib : i < b.length := by omega
      have gc : (iD c)[i]? = some (D.int (NT.at_ c i)) := by rw [List.getElem?_map, List.getElem?_eq_getElem hi, NT.at_get hi]; rfl
      have gb : (iD b)[i]? = some (D.int (NT.at_ b i)) := by rw [List.getElem?_map, List.getElem?_eq_getElem hib, NT.at_get hib]; rfl
      have zc := v1.c0 _ (NT.at_memlt hi)
      have zb := v2.c0 _ (NT.at_memlt hib)
      have sc : Sz 140 (NT.at_ c i) := sz_lt v1.sz zc.1 zc.2
      have sb : Sz 140 (NT.at_ b i) := sz_lt v2.sz zb.1 zb.2
      refine ⟨rfl, divOk hm sm, atD_ok gc ⟨mulOk (by rw [e1]; exact sv) sc, divOk hn sn, atD_ok gb ⟨mulOk (by rw [e2]; exact su) sb, ?_⟩⟩⟩
      refine ⟨2, 2, 2 + i * 1126, 280, [0, 0], st, [PP / NT.pr e NT.PL * NT.at_ c i, PP / NT.pr f NT.PL * NT.at_ b i], 0, PP, rfl, C, by decide, by decide, by decide, rfl, P0, sP, by decide, by omega, by decide, fun x hx => ?_, fun hn => (NT.rel_fits hn).elim, fun cell' st' F1 C1 => ?_⟩
      · simp only [List.not_mem_nil, List.mem_cons, or_false] at hx
        rcases hx with rfl | rfl
        · rw [e1]; exact sz_up (szmul sv sc) (by decide)
        · rw [e2]; exact sz_up (szmul su sb) (by decide)
      · refine hN _ ⟨st', _, _, rfl, ⟨rfl, C1.ls, C1.l3, fun x hx => ?_, fun u hu x hx => sz_up (C1.zs u hu x hx) (by omega)⟩, ?_⟩
        · simp only [List.mem_cons, List.not_mem_nil, or_false, or_self] at hx
          subst hx
          show (0 : Int).natAbs < 2 ^ _
          exact Nat.pow_pos (by decide)
        · subst hPP
          exact R.step F1
end
end SP
/-! F10 -/
set_option Elab.async false
set_option linter.all false
set_option maxRecDepth 100000
set_option maxHeartbeats 4100000
namespace SP
open PySem PySem.Spec L2 PyProof.Rows DL
/-- two stripes -/
abbrev twoD (e f : Nat → Nat) (c b : List Int) (r s : Int) : D := .tup [sD (NT.pr e NT.PL) c r, sD (NT.pr f NT.PL) b s]
section
variable {base : Heap} {P : Program} {w : World} {K : PySem.W.Frag} {mg : Str → Option Value}
abbrev s_few_that_bar : Stmt := top 53
abbrev N_few_that_bar : List Str := ["stripes", "breadth", "numbers", "left", "number", "others", "other"]
theorem sc_few_that_bar : FnScope N_few_that_bar ["stripes", "breadth", "numbers"] (defScope s_few_that_bar) := ⟨rfl, rfl, rfl, by decide +kernel, rfl, by decide +kernel, by decide +kernel⟩

def wd_few_that_bar : List D → (D → Prop) → Prop := fun ds Q => ∃ (e f : Nat → Nat) (c b : List Int) (r s : Int), ds = [twoD e f c b r s, .int c.length, .lst [.int 0, .int 1]] ∧ VS e c r ∧ VS f b s ∧ c.length = b.length ∧ Q (.lst [.int 0, .int 1])
theorem ok_few_that_bar (T : Txt mg) (F : FAt K mg "few_that_bar" s_few_that_bar) (D_cells_on : Def P w K mg base 4 "cells_on" ["stripes", "breadth"] (spD K wd_cells_on)) : Def P w K mg base 5 "few_that_bar" ["stripes", "breadth", "numbers"] (spD K wd_few_that_bar) := by
  refine def_of F (fun fa fd G => fn_D G sc_few_that_bar (fun ds Q h => ?_) (fun cdv A outer s0 H E hr ds Q h => ?_)) (fun _ _ _ _ _ _ us hl => match us, hl with | [_, _, _], _ => rfl)
  · obtain ⟨e, f, c, b, r, s, rfl, _⟩ := h; rfl
  · obtain ⟨e, f, c, b, r, s, rfl, v1, v2, hl, hq⟩ := h
    have nd := sc_few_that_bar.nd
    refine ⟨_, _, (ss_cons (s_set (i := 3) nd rfl (Or.inl rfl) (QN.e (n_list (by rfl) T.n_list (qvl 2))))
    (ss_cons (s_for PassesOwn.never rfl (i_list (qv 2)) (g_name (i := 4) nd rfl (Or.inr rfl)) (ss_cons (s_setLc (i := 5) (own := [("other", 6)]) rfl nd rfl rfl (sw_true rfl rfl rfl rfl) (ic_list (qvl 3)) (blkOk_by (N := N_few_that_bar) (sc := defScope s_few_that_bar) (by decide +kernel)) (fun _ _ _ _ _ => (g_name (i := 6) nd rfl (Or.inl rfl))) (fun _ _ _ _ _ => (ts_one (t_ne (qv 6) (qv 4)))) (fun _ _ _ _ _ => (qv 6)) (by decide))
    (ss_one (s_if (t_isN (q_call D_cells_on (hr.mono (by decide)) (by rfl) (qa_cons (QN.e (n_lc (own := [("other", 6)]) rfl nd (ic_list (qvl 5)) (blkOk_by (N := N_few_that_bar) (sc := defScope s_few_that_bar) (by decide +kernel)) (fun _ _ _ _ _ => (g_name (i := 6) nd rfl (Or.inl rfl))) (fun _ _ _ _ _ => ts_nil) (fun _ _ _ _ _ => (q_ixT (qv 0) (qv 6))) (by decide))) (qa_cons (qv 1) qa_nil)))) (ss_one (s_set (i := 3) nd rfl (Or.inl rfl) (qv 5))) ss_nil))))
    (ss_one (s_ret (qv 3))))), ?_⟩
    refine ⟨rfl, rfl, .inr ⟨f, b, s, (by show [D.lst [sD _ b s], D.int (c.length : Nat)] = _; rw [hl]), v2, fun cell st => ?_⟩⟩
    refine ⟨rfl, rfl, .inr ⟨e, c, r, rfl, v1, fun cell2 st2 => ?_⟩⟩
    exact hq
abbrev s_are_stripes : Stmt := top 59
abbrev N_are_stripes : List Str := ["thing", "stripe"]
theorem sc_are_stripes : FnScope N_are_stripes ["thing"] (defScope s_are_stripes) := ⟨rfl, rfl, rfl, by decide +kernel, rfl, by decide +kernel, by decide +kernel⟩

def wd_are_stripes : List D → (D → Prop) → Prop := fun ds Q => ∃ (e f : Nat → Nat) (c b : List Int) (r s : Int), ds = [twoD e f c b r s] ∧ VS e c r ∧ VS f b s ∧ c.length = b.length ∧ Q (.bl true)
theorem ok_are_stripes (T : Txt mg) (F : FAt K mg "are_stripes" s_are_stripes) (D_is_stripe_row : Def P w K mg base 5 "is_stripe_row" ["thing"] (spD K wd_is_stripe_row)) : Def P w K mg base 6 "are_stripes" ["thing"] (spD K wd_are_stripes) := by
  refine def_of F (fun fa fd G => fn_D G sc_are_stripes (fun ds Q h => ?_) (fun cdv A outer s0 H E hr ds Q h => ?_)) (fun _ _ _ _ _ _ us hl => match us, hl with | [_], _ => rfl)
  · obtain ⟨e, f, c, b, r, s, rfl, _⟩ := h; rfl
  · obtain ⟨e, f, c, b, r, s, rfl, v1, v2, hl, hq⟩ := h
    have nd := sc_are_stripes.nd
    refine ⟨_, _, (ss_cons (s_if (QW.t (w_or (t_not (q_val (q_isi (T' := "tuple") (by rfl) T.n_isinstance (by rfl) T.n_tuple (qv 0)))) (w_or1 (t_not (t_chain_le_le q_int (q_cb call_len_seq dc_lenT (by rfl) T.n_len (qa_cons (qv 0) qa_nil)) (q_gint (by rfl) T.g_MOST_STRIPES)))))) (ss_one (s_ret q_bl)) ss_nil)
    (ss_cons (s_if (t_not (q_val (q_cbl (cr_all rfl) dc_all (by rfl) T.n_all (QN.s (n_lc (own := [("stripe", 1)]) rfl nd (QI.c (i_tup (qv 0))) (blkOk_by (N := N_are_stripes) (sc := defScope s_are_stripes) (by decide +kernel)) (fun _ _ _ _ _ => (g_name (i := 1) nd rfl (Or.inl rfl))) (fun _ _ _ _ _ => ts_nil) (fun _ _ _ _ _ => (q_call D_is_stripe_row (hr.mono (by decide)) (by rfl) (qa_cons (qv 1) qa_nil))) (by decide)))))) (ss_one (s_ret q_bl)) ss_nil)
    (ss_one (s_ret (q_cbl (cr_all rfl) dc_all (by rfl) T.n_all (QN.s (n_lc (own := [("stripe", 1)]) rfl nd (QI.c (i_tup (qv 0))) (blkOk_by (N := N_are_stripes) (sc := defScope s_are_stripes) (by decide +kernel)) (fun _ _ _ _ _ => (g_name (i := 1) nd rfl (Or.inl rfl))) (fun _ _ _ _ _ => ts_nil) (fun _ _ _ _ _ => (q_eq (q_cb call_len_seq dc_lenT (by rfl) T.n_len (qa_cons (q_ixT (qv 1) q_int) qa_nil)) (q_cb call_len_seq dc_lenT (by rfl) T.n_len (qa_cons (q_ixT (q_ixT (qv 0) q_int) q_int) qa_nil)))) (by decide)))))))), ?_⟩
    refine ⟨rfl, e, c, r, rfl, v1, f, b, s, rfl, v2, ?_⟩
    refine ⟨[true, true], rfl, ?_⟩
    refine ⟨rfl, ⟨[decide (((iD c).length : Int) = ((iD c).length : Int)), decide (((iD b).length : Int) = ((iD c).length : Int))], rfl, ?_⟩⟩
    rw [List.length_map, List.length_map, hl, decide_eq_true rfl]; exact hq
abbrev s_need_stripe_row : Stmt := top 60
abbrev N_need_stripe_row : List Str := ["stripes"]
theorem sc_need_stripe_row : FnScope N_need_stripe_row ["stripes"] (defScope s_need_stripe_row) := ⟨rfl, rfl, rfl, by decide +kernel, rfl, by decide +kernel, by decide +kernel⟩

def wd_need_stripe_row : List D → (D → Prop) → Prop := fun ds Q => ∃ (e f : Nat → Nat) (c b : List Int) (r s : Int), ds = [twoD e f c b r s] ∧ VS e c r ∧ VS f b s ∧ c.length = b.length ∧ Q (.int c.length)
theorem ok_need_stripe_row (T : Txt mg) (F : FAt K mg "need_stripe_row" s_need_stripe_row) (D_are_stripes : Def P w K mg base 6 "are_stripes" ["thing"] (spD K wd_are_stripes)) : Def P w K mg base 7 "need_stripe_row" ["stripes"] (spD K wd_need_stripe_row) := by
  refine def_of F (fun fa fd G => fn_D G sc_need_stripe_row (fun ds Q h => ?_) (fun cdv A outer s0 H E hr ds Q h => ?_)) (fun _ _ _ _ _ _ us hl => match us, hl with | [_], _ => rfl)
  · obtain ⟨e, f, c, b, r, s, rfl, _⟩ := h; rfl
  · obtain ⟨e, f, c, b, r, s, rfl, v1, v2, hl, hq⟩ := h
    have nd := sc_need_stripe_row.nd
    refine ⟨_, _, (ss_cons (s_if (t_not (q_val (q_call D_are_stripes (hr.mono (by decide)) (by rfl) (qa_cons (qv 0) qa_nil)))) (ss_one s_never) ss_nil)
    (ss_one (s_ret (q_cb call_len_seq dc_lenT (by rfl) T.n_len (qa_cons (q_ixT (q_ixT (qv 0) q_int) q_int) qa_nil))))), ?_⟩
    refine ⟨e, f, c, b, r, s, rfl, v1, v2, hl, ?_⟩
    show Q (.int (iD c).length)
    rw [List.length_map]; exact hq
abbrev s_do_meet : Stmt := top 62
abbrev N_do_meet : List Str := ["stripes"]
theorem sc_do_meet : FnScope N_do_meet ["stripes"] (defScope s_do_meet) := ⟨rfl, rfl, rfl, by decide +kernel, rfl, by decide +kernel, by decide +kernel⟩

/-- the answer is what the plain law says -/
def wd_do_meet : List D → (D → Prop) → Prop := fun ds Q => ∃ (e f : Nat → Nat) (c b : List Int) (r s : Int) (t : Nat → Nat) (κ : Int), ds = [twoD e f c b r s] ∧ VS e c r ∧ VS f b s ∧ c.length = b.length ∧ NT.Rel e f c b t κ ∧ Q (.bl (decide (NT.pr t NT.PL ∣ s - κ * r)))
theorem fk_do_meet (T : Txt mg) (D_cells_on : Def P w K mg base 4 "cells_on" ["stripes", "breadth"] (spD K wd_cells_on)) (D_need_stripe_row : Def P w K mg base 7 "need_stripe_row" ["stripes"] (spD K wd_need_stripe_row)) {fa : Addr} {fd : FuncData} (G : FunD K "do_meet" "do_meet" (defArgs s_do_meet) (defBody s_do_meet) (defScope s_do_meet) [] [] fa fd) :
    FnOk P w K mg base CX0 8 fa fd ["stripes"] (spD K wd_do_meet) := by
  refine fn_D G sc_do_meet (fun ds Q h => ?_) (fun cdv A outer s0 H E hr ds Q h => ?_)
  · obtain ⟨e, f, c, b, r, s, t, κ, rfl, _⟩ := h; rfl
  · obtain ⟨e, f, c, b, r, s, t, κ, rfl, v1, v2, hl, R, hq⟩ := h
    have nd := sc_do_meet.nd
    refine ⟨_, _, (ss_one (s_ret (q_notN (q_call D_cells_on (hr.mono (by decide)) (by rfl) (qa_cons (qv 0) (qa_cons (q_call D_need_stripe_row (hr.mono (by decide)) (by rfl) (qa_cons (qv 0) qa_nil)) qa_nil)))))), ?_⟩
    refine ⟨e, f, c, b, r, s, rfl, v1, v2, hl, ?_⟩
    refine .inl ⟨e, f, c, b, r, s, rfl, v1, v2, hl, fun hn => ?_, fun cell st _ h1 h2 _ => ?_⟩
    · have h3 := NT.never_law hl v1.uni v2.uni R hn
      rw [decide_eq_false h3] at hq; exact hq
    · have h3 := NT.meet_law hl R h1 h2
      rw [decide_eq_true h3] at hq; exact hq
theorem ok_do_meet (T : Txt mg) (F : FAt K mg "do_meet" s_do_meet) (D_cells_on : Def P w K mg base 4 "cells_on" ["stripes", "breadth"] (spD K wd_cells_on)) (D_need_stripe_row : Def P w K mg base 7 "need_stripe_row" ["stripes"] (spD K wd_need_stripe_row)) :
    Def P w K mg base 8 "do_meet" ["stripes"] (spD K wd_do_meet) :=
  def_of F (fun fa fd G => fk_do_meet T D_cells_on D_need_stripe_row G) (fun _ _ _ _ _ _ us hl => match us, hl with | [_], _ => rfl)
end
end SP
/-! ZI -/
set_option Elab.async false
set_option linter.all false
set_option maxRecDepth 100000
set_option maxHeartbeats 2100000
/-! zip of a list, a tuple and a list -/
namespace Z3
open PySem PySem.Spec L2 PyProof.Rows
open PySem.Sem (wp)
theorem bd {M : Model} {A : Around} {α β : Type} {m : Sem α} {f : α → Sem β} {Q : β → Shared → Prop} {E : Value → Shared → Prop} {s : Shared} (h : wpAny M A m (fun a s1 => wpAny M A (f a) Q E s1) E s) : wpAny M A (m >>= f) Q E s := wpAny_bind h
abbrev Trip (h : Heap) (T : Addr) (a b c : Value) : Prop := h.get? T = some { cls := .type "tuple", data := .seq #[a, b, c] }
structure Apt (z TI TO i j k l m n : Addr) : Prop where
  TIz : TI ≠ z
  TOz : TO ≠ z
  iz : i ≠ z
  jz : j ≠ z
  kz : k ≠ z
  TITO : TI ≠ TO
  TIi : TI ≠ i
  TIj : TI ≠ j
  TIk : TI ≠ k
  TOi : TO ≠ i
  TOj : TO ≠ j
  TOk : TO ≠ k
  ij : i ≠ j
  ik : i ≠ k
  jk : j ≠ k
  lo : ∀ c, (c = l ∨ c = m ∨ c = n) → c ≠ z ∧ c ≠ TO ∧ c ≠ i ∧ c ≠ j ∧ c ≠ k
section
variable {s : Shared} {prog : Program} {w : World} {A : Around} {E : Value → Shared → Prop}
theorem put3 {T : Addr} {a b c x : Value} {k : Nat} {Q : Unit → Shared → Prop} (hT : Trip s.heap T a b c) (h : ∀ h', h'.get? T = some { cls := .type "tuple", data := .seq ((#[a, b, c] : Array Value).setIfInBounds k x) } → Heap.SameBut T s.heap h' → Q () { s with heap := h' }) : wpAny (model prog w) A (updateSeq T (·.setIfInBounds k x)) Q E s := by
  refine (wpAny_updateSeq hT rfl (h _ ?_ (Heap.SameBut.update ..)))
  rw [Heap.get?_update_self _ hT rfl]; simp [Obj.mapSeq]
theorem next3 {z TI TO i j k l m n : Addr} {p q r : Nat} {xs ys zs : Array Value} {x y v a b c : Value} {Q : Value → Shared → Prop} (D : Apt z TI TO i j k l m n)
    (hz : IsZip s.heap z TI TO .none) (hI : Trip s.heap TI (.ref i) (.ref j) (.ref k)) (hO : Trip s.heap TO a b c) (h1 : s.heap.IsListIter i l p) (h2 : s.heap.IsTupleIter j m q) (h3 : s.heap.IsListIter k n r)
    (g1 : s.heap.IsList l xs) (g2 : s.heap.IsTuple m ys) (g3 : s.heap.IsList n zs) (ex : xs[p]? = some x) (ey : ys[q]? = some y) (ev : zs[r]? = some v)
    (hQ : ∀ h', IsZip h' z TI TO (rawInt s.heap.objs.size) → Trip h' TO x y v → h'.IsListIter i l (p + 1) → h'.IsTupleIter j m (q + 1) → h'.IsListIter k n (r + 1) → Trip h' s.heap.objs.size x y v → h'.objs.size = s.heap.objs.size + 1 →
      (∀ d o, d ≠ z → d ≠ TO → d ≠ i → d ≠ j → d ≠ k → s.heap.get? d = some o → h'.get? d = some o) → Q (.ref s.heap.objs.size) { s with heap := h' }) :
    wpAny (model prog w) A (Builtin.«zip.__next__» ⟨[.ref z], []⟩) (fun fin s' => ∃ u, fin = .done (.ret u) ∧ Q u s') E s := by
  obtain ⟨ll, lm, ln⟩ := And.intro (D.lo l (.inl rfl)) (And.intro (D.lo m (.inr (.inl rfl))) (D.lo n (.inr (.inr rfl))))
  show wpAny _ _ (field (.ref z) 2 >>= fun _ => _) _ _ _
  refine bd (wpAny_field hz rfl (x := .bool false) rfl ?_)
  show wpAny _ _ (field (.ref z) 3 >>= fun _ => _) _ _ _
  refine bd (wpAny_field hz rfl (x := .ref TI) rfl ?_)
  refine bd (wpAny_seqItems hI rfl ?_)
  show wpAny _ _ (Builtin.SmallTypes.ownedTupleIsFree (.ref z) >>= fun _ => _) _ _ _
  refine bd ?_
  unfold Builtin.SmallTypes.ownedTupleIsFree at ⊢
  refine bd (wpAny_field hz rfl (x := .none) rfl (wpAny_pure ?_))
  simp only [if_true]
  refine bd (wpAny_rule ?_)
  refine bd (wpAny_field hz rfl (x := .ref TO) rfl ?_)
  refine bd (wpAny_setField_rec hz (by simp) fun ha za sa => ?_)
  replace za : IsZip ha z TI TO .ellipsis := za
  have ka : ∀ d o, d ≠ z → s.heap.get? d = some o → ha.get? d = some o := fun d o e => sa.extBut d o e
  refine bd ?_
  simp only [List.zipIdx_nil, List.zipIdx_cons, List.forIn_nil, List.forIn_cons]
  refine bd (bd (wpAny_onRaise ?_))
  show wpAny _ _ (Builtin.SmallTypes.nextOf (.ref i) >>= fun _ => _) _ _ _
  refine bd (wpAny_nextOf_list_item (h1.at fun o => ka i o D.iz) (g1.at fun o => ka l o ll.1) ex fun hb ib sb => wpAny_pure ?_)
  have kb : ∀ d o, d ≠ z → d ≠ i → s.heap.get? d = some o → hb.get? d = some o := fun d o e1 e2 e => sb.extBut d o e2 (ka d o e1 e)
  have Ob : Trip hb TO a b c := kb _ _ D.TOz D.TOi hO
  refine bd (wpAny_seqItems Ob rfl ?_)
  refine bd (put3 Ob fun hc Oc sc => ?_)
  replace Oc : Trip hc TO x b c := Oc
  have kc : ∀ d o, d ≠ z → d ≠ i → d ≠ TO → s.heap.get? d = some o → hc.get? d = some o := fun d o e1 e2 e3 e => sc.extBut d o e3 (kb d o e1 e2 e)
  refine bd (wpAny_letGo (wpAny_pure ?_))
  refine bd (bd (wpAny_onRaise ?_))
  show wpAny _ _ (Builtin.SmallTypes.nextOf (.ref j) >>= fun _ => _) _ _ _
  refine bd (RZ.nextOf_tuple_item (h2.at fun o => kc j o D.jz D.ij.symm D.TOj.symm) (g2.at fun o => kc m o lm.1 lm.2.2.1 lm.2.1) ey fun hd id sd => wpAny_pure ?_)
  have kd : ∀ d o, d ≠ z → d ≠ i → d ≠ TO → d ≠ j → s.heap.get? d = some o → hd.get? d = some o := fun d o e1 e2 e3 e4 e => sd.extBut d o e4 (kc d o e1 e2 e3 e)
  have Od : Trip hd TO x b c := sd.extBut _ _ D.TOj Oc
  refine bd (wpAny_seqItems Od rfl ?_)
  refine bd (put3 Od fun he Oe se => ?_)
  replace Oe : Trip he TO x y c := Oe
  have ke : ∀ d o, d ≠ z → d ≠ i → d ≠ TO → d ≠ j → s.heap.get? d = some o → he.get? d = some o := fun d o e1 e2 e3 e4 e => se.extBut d o e3 (kd d o e1 e2 e3 e4 e)
  refine bd (wpAny_letGo (wpAny_pure ?_))
  refine bd (bd (wpAny_onRaise ?_))
  show wpAny _ _ (Builtin.SmallTypes.nextOf (.ref k) >>= fun _ => _) _ _ _
  refine bd (wpAny_nextOf_list_item (h3.at fun o => ke k o D.kz D.ik.symm D.TOk.symm D.jk.symm) (g3.at fun o => ke n o ln.1 ln.2.2.1 ln.2.1 ln.2.2.2.1) ev fun hf kf sf => wpAny_pure ?_)
  have kf' : ∀ d o, d ≠ z → d ≠ i → d ≠ TO → d ≠ j → d ≠ k → s.heap.get? d = some o → hf.get? d = some o := fun d o e1 e2 e3 e4 e5 e => sf.extBut d o e5 (ke d o e1 e2 e3 e4 e)
  have Of : Trip hf TO x y c := sf.extBut _ _ D.TOk Oe
  refine bd (wpAny_seqItems Of rfl ?_)
  refine bd (put3 Of fun hg Og sg => ?_)
  replace Og : Trip hg TO x y v := Og
  have kg : ∀ d o, d ≠ z → d ≠ i → d ≠ TO → d ≠ j → d ≠ k → s.heap.get? d = some o → hg.get? d = some o := fun d o e1 e2 e3 e4 e5 e => sg.extBut d o e3 (kf' d o e1 e2 e3 e4 e5 e)
  refine bd (wpAny_letGo (wpAny_pure (wpAny_pure ?_)))
  refine bd (wpAny_seqItems Og rfl ?_)
  refine bd (wpAny_newTuple ?_)
  have size : hg.objs.size = s.heap.objs.size := by rw [sg.1, sf.1, se.1, sd.1, sc.1, sb.1, sa.1]
  have zg : IsZip hg z TI TO .ellipsis := sg.extBut _ _ D.TOz.symm (sf.extBut _ _ D.kz.symm (se.extBut _ _ D.TOz.symm (sd.extBut _ _ D.jz.symm (sc.extBut _ _ D.TOz.symm (sb.extBut _ _ D.iz.symm za)))))
  have ig : hg.IsListIter i l (p + 1) := ib.at fun o e => sg.extBut _ o D.TOi.symm (sf.extBut _ o D.ik (se.extBut _ o D.TOi.symm (sd.extBut _ o D.ij (sc.extBut _ o D.TOi.symm e))))
  have jg : hg.IsTupleIter j m (q + 1) := id.at fun o e => sg.extBut _ o D.TOj.symm (sf.extBut _ o D.jk (se.extBut _ o D.TOj.symm e))
  have lg : hg.IsListIter k n (r + 1) := kf.at fun o e => sg.extBut _ o D.TOk.symm e
  have zlt : z < hg.objs.size := Heap.lt_size zg
  show wpAny _ _ (Builtin.SmallTypes.ownedTupleHandOut (.ref z) (.ref hg.objs.size) >>= fun _ => _) _ _ _
  refine bd ?_
  unfold Builtin.SmallTypes.ownedTupleHandOut at ⊢
  have zh : IsZip (hg.push { cls := .type "tuple", data := .seq #[x, y, v] }) z TI TO .ellipsis := Heap.get?_push_of_some _ zg
  refine bd (wpAny_setField_rec zh (by simp) fun hm zm sm => ?_)
  replace zm : IsZip hm z TI TO (rawInt hg.objs.size) := zm
  refine wpAny_setField_rec zm (by simp) fun hn zn sn => ?_
  replace zn : IsZip hn z TI TO (rawInt hg.objs.size) := zn
  have up : ∀ d o, d ≠ z → hg.get? d = some o → hn.get? d = some o := fun d o e1 e => sn.extBut _ _ e1 (sm.extBut _ _ e1 (Heap.get?_push_of_some _ e))
  have Tn : Trip hn hg.objs.size x y v := sn.extBut _ _ (Nat.ne_of_gt zlt) (sm.extBut _ _ (Nat.ne_of_gt zlt) (Heap.get?_push_size _ rfl))
  have size2 : hn.objs.size = hg.objs.size + 1 := by rw [sn.1, sm.1, Heap.size_push]
  rw [size] at zn Tn size2
  refine (wpAny_pure ⟨_, rfl, ?_⟩)
  show Q (.ref hg.objs.size) _
  rw [size]
  exact hQ hn zn (up _ _ D.TOz Og) (ig.at fun o e => up _ o D.iz e) (jg.at fun o e => up _ o D.jz e) (lg.at fun o e => up _ o D.kz e) Tn size2 fun d o e1 e2 e3 e4 e5 e => up d o e1 (kg d o e1 e3 e2 e4 e5 e)
/-- the first is at its end -/
theorem stop3 {z TI TO i j k l m n : Addr} {p : Nat} {xs : Array Value} {a b c : Value} {Q : Fin → Shared → Prop} (hh : A.handled = none) (D : Apt z TI TO i j k l m n)
    (hz : IsZip s.heap z TI TO .none) (hI : Trip s.heap TI (.ref i) (.ref j) (.ref k)) (hO : Trip s.heap TO a b c) (h1 : s.heap.IsListIter i l p) (g1 : s.heap.IsList l xs) (ex : xs[p]? = none)
    (hE : ∀ h' e, (∀ d o, d ≠ z → d ≠ i → s.heap.get? d = some o → h'.get? d = some o) → (∃ o, h'.get? e = some o ∧ o.cls = .type "StopIteration") → E (.ref e) { s with heap := h' }) : wpAny (model prog w) A (Builtin.«zip.__next__» ⟨[.ref z], []⟩) Q E s := by
  have ll := D.lo l (.inl rfl)
  show wpAny _ _ (field (.ref z) 2 >>= fun _ => _) _ _ _
  refine bd (wpAny_field hz rfl (x := .bool false) rfl ?_)
  show wpAny _ _ (field (.ref z) 3 >>= fun _ => _) _ _ _
  refine bd (wpAny_field hz rfl (x := .ref TI) rfl ?_)
  refine bd (wpAny_seqItems hI rfl ?_)
  show wpAny _ _ (Builtin.SmallTypes.ownedTupleIsFree (.ref z) >>= fun _ => _) _ _ _
  refine bd ?_
  unfold Builtin.SmallTypes.ownedTupleIsFree at ⊢
  refine bd (wpAny_field hz rfl (x := .none) rfl (wpAny_pure ?_))
  simp only [if_true]
  refine bd (wpAny_rule ?_)
  refine bd (wpAny_field hz rfl (x := .ref TO) rfl ?_)
  refine bd (wpAny_setField_rec hz (by simp) fun ha za sa => ?_)
  replace za : IsZip ha z TI TO .ellipsis := za
  refine bd ?_
  simp only [List.zipIdx_nil, List.zipIdx_cons, List.forIn_nil, List.forIn_cons]
  refine bd (bd (wpAny_onRaise ?_))
  show wpAny _ _ (Builtin.SmallTypes.nextOf (.ref i) >>= fun _ => _) _ _ _
  refine bd (wpAny_nextOf_list_end hh (h1.extBut sa.extBut D.iz) (g1.extBut sa.extBut ll.1) ex fun hb e sb he => ?_)
  obtain ⟨o, ho, hc⟩ := he
  have zb : IsZip hb z TI TO .ellipsis := sb _ _ D.iz.symm za
  have ne : e ≠ z := fun t => by
    subst t
    rw [zb] at ho
    cases ho
    simp at hc
  refine wpAny_setField_rec zb (by simp) fun hd _ sd => hE hd e (fun d o e1 e2 t => sd.extBut _ _ e1 (sb _ _ e2 (sa.extBut _ _ e1 t))) ⟨o, sd.extBut _ _ ne ho, hc⟩
end
end Z3
/-! ZI2 -/
set_option Elab.async false
set_option linter.all false
set_option maxRecDepth 100000
set_option maxHeartbeats 2100000
/-! zip of a list, a tuple and a list: made, walked -/
namespace Z3
open PySem PySem.Spec L2 PyProof.Rows DL
open PySem.Sem (wp)
section
variable {s : Shared} {prog : Program} {w : World} {A : Around} {E : Value → Shared → Prop}
theorem py3 {z TI TO i j k l m n : Addr} {p q r : Nat} {xs ys zs : Array Value} {x y v a b c : Value} {Q : Option Value → Shared → Prop} (D : Apt z TI TO i j k l m n)
    (hz : IsZip s.heap z TI TO .none) (hI : Trip s.heap TI (.ref i) (.ref j) (.ref k)) (hO : Trip s.heap TO a b c) (h1 : s.heap.IsListIter i l p) (h2 : s.heap.IsTupleIter j m q) (h3 : s.heap.IsListIter k n r)
    (g1 : s.heap.IsList l xs) (g2 : s.heap.IsTuple m ys) (g3 : s.heap.IsList n zs) (ex : xs[p]? = some x) (ey : ys[q]? = some y) (ev : zs[r]? = some v)
    (hQ : ∀ h', IsZip h' z TI TO (rawInt s.heap.objs.size) → Trip h' TO x y v → h'.IsListIter i l (p + 1) → h'.IsTupleIter j m (q + 1) → h'.IsListIter k n (r + 1) → Trip h' s.heap.objs.size x y v → h'.objs.size = s.heap.objs.size + 1 →
      (∀ d o, d ≠ z → d ≠ TO → d ≠ i → d ≠ j → d ≠ k → s.heap.get? d = some o → h'.get? d = some o) → Q (some (.ref s.heap.objs.size)) { s with heap := h' }) : wpAny (model prog w) A (pyNext (.ref z)) Q E s := by
  have ty : s.TypeIs (.ref z) "zip" := ⟨_, hz, rfl⟩
  unfold pyNext
  exact bd (wpAny_attempt (wpAny_callSpecial?_slot (name := Str.ofString "__next__") ty F.slot_zip_next (wpAny_call_entry F.slot_zip_next ty F.entry_zip_next
    (next3 D hz hI hO h1 h2 h3 g1 g2 g3 ex ey ev fun h' b1 b2 b3 b4 b5 b6 b7 b8 => wpAny_pure (hQ h' b1 b2 b3 b4 b5 b6 b7 b8)) (F.args_zip_next_1 _))))
theorem py3end {z TI TO i j k l m n : Addr} {p : Nat} {xs : Array Value} {a b c : Value} {Q : Option Value → Shared → Prop} (hh : A.handled = none) (D : Apt z TI TO i j k l m n)
    (hz : IsZip s.heap z TI TO .none) (hI : Trip s.heap TI (.ref i) (.ref j) (.ref k)) (hO : Trip s.heap TO a b c) (h1 : s.heap.IsListIter i l p) (g1 : s.heap.IsList l xs) (ex : xs[p]? = none)
    (hQ : ∀ h', (∀ d o, d ≠ z → d ≠ i → s.heap.get? d = some o → h'.get? d = some o) → Q none { s with heap := h' }) : wpAny (model prog w) A (pyNext (.ref z)) Q E s := by
  have ty : s.TypeIs (.ref z) "zip" := ⟨_, hz, rfl⟩
  unfold pyNext
  refine bd (wpAny_attempt (wpAny_callSpecial?_slot (name := Str.ofString "__next__") ty F.slot_zip_next (wpAny_call_entry F.slot_zip_next ty F.entry_zip_next
    (stop3 hh D hz hI hO h1 g1 ex fun h' e hk he => ?_) (F.args_zip_next_1 _))))
  obtain ⟨o, ho, hc⟩ := he
  refine bd (wpAny_isInstance (T := "StopIteration") (b := true) ⟨o, ho, hc⟩ isSubtype_stop (wpAny_pure (hQ _ hk)))
theorem chk3 (a b c : Value) : checkTypeCall "zip" ⟨[a, b, c], []⟩ = pure () := by kernel_rfl
theorem chn3 (a b c : Value) : checkBuiltinCall "zip.__new__" ⟨[.type "zip", a, b, c], []⟩ = pure () := by kernel_rfl
theorem init4 (a b c d : Value) : argsOk "object.__init__" ⟨[a, b, c, d], []⟩ := by
  unfold argsOk; rw [signature?_of (id := "object.__init__") (n := ['_', '_', 't', 'i', 'n', 'i', '_', '_']) (o := ['t', 'c', 'e', 'j', 'b', 'o']) (by kernel_rfl) F.owner_object]; kernel_rfl 
abbrev za (h : Heap) (l : Addr) : Heap := h.push { cls := .type "list_iterator", data := .fields #[.ref l, .int 0 0] }
abbrev zb (h : Heap) (l m : Addr) : Heap := (za h l).push { cls := .type "tuple_iterator", data := .fields #[.ref m, .int 0 0] }
abbrev zc (h : Heap) (l m n : Addr) : Heap := (zb h l m).push { cls := .type "list_iterator", data := .fields #[.ref n, .int 0 0] }
abbrev zd (h : Heap) (l m n : Addr) : Heap := (zc h l m n).push { cls := .type "tuple", data := .seq #[.ref h.objs.size, .ref (za h l).objs.size, .ref (zb h l m).objs.size] }
abbrev ze (h : Heap) (l m n : Addr) : Heap := (zd h l m n).push { cls := .type "tuple", data := .seq #[.none, .none, .none] }
abbrev zf (h : Heap) (l m n : Addr) : Heap := (ze h l m n).push { cls := .type "zip", data := .fields #[.none, .bool false, .bool false, .ref (zc h l m n).objs.size, .ref (zd h l m n).objs.size] }
theorem new3 (l m n : Addr) (xs ys zs : Array Value) : Meets (Builtin.«zip.__new__» ⟨[.type "zip", .ref l, .ref m, .ref n], []⟩) (fun _ R s => s.heap.IsList l xs ∧ s.heap.IsTuple m ys ∧ s.heap.IsList n zs ∧
      R (.ok (.ret (.ref (ze s.heap l m n).objs.size))) { s with heap := zf s.heap l m n }) :=
  .of_wp fun pg w A R s h => by
    obtain ⟨hp, g, d, tk, os⟩ := s; obtain ⟨h1, h2, h3, h⟩ := h
    have hsub := sub_zip
    have L1 : Heap.IsList (Shared.heap ⟨hp, g, d, tk, os⟩) l xs := h1
    have L2 : Heap.IsTuple (Shared.heap ⟨za hp l, g, d, tk, os⟩) m ys := Heap.IsTuple.push h2 _
    have L3 : Heap.IsList (Shared.heap ⟨zb hp l m, g, d, tk, os⟩) n zs := Heap.IsList.push (Heap.IsList.push h3 _) _
    wp_walk using wpAny_pyIter_list L1, wpAny_pyIter_tuple L2, wpAny_pyIter_list L3
    exact ⟨_, rfl, h⟩
theorem call3 {l m n : Addr} {xs ys zs : Array Value} {Q : Value → Shared → Prop} (h1 : s.heap.IsList l xs) (h2 : s.heap.IsTuple m ys) (h3 : s.heap.IsList n zs)
    (h : ∀ h', IsZip h' (s.heap.objs.size + 5) (s.heap.objs.size + 3) (s.heap.objs.size + 4) .none → Trip h' (s.heap.objs.size + 3) (.ref s.heap.objs.size) (.ref (s.heap.objs.size + 1)) (.ref (s.heap.objs.size + 2)) →
      Trip h' (s.heap.objs.size + 4) .none .none .none → h'.IsListIter s.heap.objs.size l 0 → h'.IsTupleIter (s.heap.objs.size + 1) m 0 → h'.IsListIter (s.heap.objs.size + 2) n 0 →
      (∀ c o, s.heap.get? c = some o → h'.get? c = some o) → Q (.ref (s.heap.objs.size + 5)) { s with heap := h' }) : wpAny (model prog w) A (call (.type "zip") [.ref l, .ref m, .ref n]) Q E s := by
  refine callType_new F.called_zip (by decide) (chk3 _ _ _) (chn3 _ _ _) (fun obj => init4 obj _ _ _) F.entry_zip_new (new3 l m n xs ys zs) ⟨h1, h2, h3, ?_⟩
  have a1 : (za s.heap l).objs.size = s.heap.objs.size + 1 := Heap.size_push ..
  have a2 : (zb s.heap l m).objs.size = s.heap.objs.size + 2 := by rw [Heap.size_push, a1]
  have a3 : (zc s.heap l m n).objs.size = s.heap.objs.size + 3 := by rw [Heap.size_push, a2]
  have a4 : (zd s.heap l m n).objs.size = s.heap.objs.size + 4 := by rw [Heap.size_push, a3]
  have a5 : (ze s.heap l m n).objs.size = s.heap.objs.size + 5 := by rw [Heap.size_push, a4]
  have b6 : (zf s.heap l m n).get? (ze s.heap l m n).objs.size = some _ := Heap.get?_push_size _ rfl
  have b5 : (zf s.heap l m n).get? (zd s.heap l m n).objs.size = some _ := Heap.get?_push_of_some _ (Heap.get?_push_size _ rfl)
  have b4 : (zf s.heap l m n).get? (zc s.heap l m n).objs.size = some _ := Heap.get?_push_of_some _ (Heap.get?_push_of_some _ (Heap.get?_push_size _ rfl))
  have b3 : (zf s.heap l m n).get? (zb s.heap l m).objs.size = some _ := Heap.get?_push_of_some _ (Heap.get?_push_of_some _ (Heap.get?_push_of_some _ (Heap.get?_push_size _ rfl)))
  have b2 : (zf s.heap l m n).get? (za s.heap l).objs.size = some _ := Heap.get?_push_of_some _ (Heap.get?_push_of_some _ (Heap.get?_push_of_some _ (Heap.get?_push_of_some _ (Heap.get?_push_size _ rfl))))
  have b1 : (zf s.heap l m n).get? s.heap.objs.size = some _ := Heap.get?_push_of_some _ (Heap.get?_push_of_some _ (Heap.get?_push_of_some _ (Heap.get?_push_of_some _ (Heap.get?_push_of_some _ (Heap.get?_push_size _ rfl)))))
  show _ ∧ _
  rw [a3, a4, a5] at b6
  rw [a4] at b5
  rw [a1, a2, a3] at b4
  rw [a2] at b3
  rw [a1] at b2
  rw [a5]
  exact ⟨⟨_, b6, rfl⟩, h _ b6 b4 b5 ⟨_, b1, rfl, rfl⟩ ⟨_, b2, rfl, rfl⟩ ⟨_, b3, rfl, rfl⟩ fun c o x => Heap.get?_push_of_some _ (Heap.get?_push_of_some _ (Heap.get?_push_of_some _ (Heap.get?_push_of_some _ (Heap.get?_push_of_some _ (Heap.get?_push_of_some _ x)))))⟩
end
theorem apt (I l m n : Nat) (h1 : l < I) (h2 : m < I) (h3 : n < I) : Apt (I + 5) (I + 3) (I + 4) I (I + 1) (I + 2) l m n := by
  have lt : ∀ c : Nat, (c = l ∨ c = m ∨ c = n) → c < I := fun c hc => by rcases hc with e | e | e <;> (rw [e]; assumption)
  have ne : ∀ (c k : Nat), c < I → c ≠ I + k := fun c k h => by omega
  refine ⟨?_, ?_, ?_, ?_, ?_, ?_, ?_, ?_, ?_, ?_, ?_, ?_, ?_, ?_, ?_, fun c hc => ⟨ne c 5 (lt c hc), ne c 4 (lt c hc), ne c 0 (lt c hc), ne c 1 (lt c hc), ne c 2 (lt c hc)⟩⟩ <;> (exact fun (t : (_ : Nat) = _) => by omega)
def It3 (K : PySem.W.Frag) (a b c : Addr) : It :=
  ⟨fun i H => ∃ (xs ys zs : List V) (x y z : V), SqL K H a xs ∧ SqT K H b ys ∧ SqL K H c zs ∧ xs[i]? = some x ∧ ys[i]? = some y ∧ zs[i]? = some z,
    fun i H v H' => ∃ T x y z, v = .ref T ∧ H T = none ∧ H' = upd H T (.tup [x, y, z]) ∧ (∀ xs, SqL K H a xs → xs[i]? = some x) ∧ (∀ ys, SqT K H b ys → ys[i]? = some y) ∧ ∀ zs, SqL K H c zs → zs[i]? = some z,
    fun i H => ∃ xs : List V, SqL K H a xs ∧ xs.length ≤ i⟩
theorem six {P : Nat → Prop} {z TI TO i j k : Nat} (h1 : P z) (h2 : P TI) (h3 : P TO) (h4 : P i) (h5 : P j) (h6 : P k) : ∀ c ∈ [z, TI, TO, i, j, k], P c := fun c hc => by
  simp only [List.mem_cons, List.not_mem_nil, or_false] at hc
  rcases hc with e | e | e | e | e | e <;> (subst e; assumption)
theorem turn3 {P : Program} {w : World} {K : PySem.W.Frag} {elts : List Expr} {kk : Nat} {tpos : Pos} {a b c z TI TO i1 i2 i3 : Addr} (D : Apt z TI TO i1 i2 i3 a b c) :
    Turn P w K (.Tuple elts kk tpos) (It3 K a b c) [z, TI, TO, i1, i2, i3] z (fun i h => IsZip h z TI TO .none ∧ Trip h TI (.ref i1) (.ref i2) (.ref i3) ∧ (∃ x y v, Trip h TO x y v) ∧ h.IsListIter i1 a i ∧ h.IsTupleIter i2 b i ∧ h.IsListIter i3 c i) where
  mem := by simp
  obj := fun i h st => by
    obtain ⟨hz, hI, ⟨x, y, v, hO⟩, ⟨o1, e1, _, d1⟩, ⟨o2, e2, _, d2⟩, ⟨o3, e3, _, d3⟩⟩ := st
    exact six (P := fun c => ∃ o, h.get? c = some o ∧ ∀ v, o.data ≠ .cell v) ⟨_, hz, fun v q => nomatch q⟩ ⟨_, hI, fun v q => nomatch q⟩ ⟨_, hO, fun v q => nomatch q⟩ ⟨o1, e1, fun v q => by rw [d1] at q; cases q⟩ ⟨o2, e2, fun v q => by rw [d2] at q; cases q⟩ ⟨o3, e3, fun v q => by rw [d3] at q; cases q⟩
  keep := fun i h h' st k => by
    obtain ⟨hz, hI, ⟨x, y, v, hO⟩, h1, h2, h3⟩ := st
    exact ⟨k z (by simp) _ hz, k TI (by simp) _ hI, ⟨x, y, v, k TO (by simp) _ hO⟩, h1.at fun o q => k i1 (by simp) o q, h2.at fun o q => k i2 (by simp) o q, h3.at fun o q => k i3 (by simp) o q⟩
  item := by
    intro X hP hw hK hc i pins s σ H E I; intro hf st hg
    subst hP hw hK
    obtain ⟨hz, hI, ⟨x0, y0, v0, hO⟩, h1, h2, h3⟩ := st
    obtain ⟨xs, ys, zs, x, y, v, qx, qy, qv, ex, ey, ev⟩ := hg
    obtain ⟨is1, r1, p1, _⟩ := I.list qx
    obtain ⟨is2, r2, p2, _⟩ := I.tuple qy
    obtain ⟨is3, r3, p3, _⟩ := I.list qv
    obtain ⟨u1, hu1, ru1⟩ := r1.get ex
    obtain ⟨u2, hu2, ru2⟩ := r2.get ey
    obtain ⟨u3, hu3, ru3⟩ := r3.get ev
    have zl : z < s.heap.objs.size := Heap.lt_size hz
    refine py3 D hz hI hO h1 h2 h3 p1.isList p2 p3.isList (x := u1) (y := u2) (v := u3) (by simpa using hu1) (by simpa using hu2) (by simpa using hu3) fun h' z' O' h1' h2' h3' hT hsz hk => ?_
    refine ⟨_, rfl, wpAny_letOwnedTupleGo_zip (s := { s with heap := h' }) z' (fun h'' z'' sb => ?_)⟩
    have T2 : h''.get? s.heap.objs.size = some { cls := .type "tuple", data := .seq #[u1, u2, u3] } := (sb.2 _ (Nat.ne_of_gt zl)).trans hT
    have nw : ObjOk X.prog X.w (upd H s.heap.objs.size (.tup [x, y, v])) h'' s.heap.objs.size (.tup [x, y, v]) := ⟨by show 3 ≤ sizeLine; decide, [u1, u2, u3], .cons ru1 (.cons ru2 (.cons ru3 .nil)), ⟨_, T2, rfl, _, rfl⟩⟩
    have I1 : Inv X pins σ (upd H s.heap.objs.size (.tup [x, y, v])) { s with heap := h'' } :=
      I.turnedNew (t' := s.toks) (ch := [z, TI, TO, i1, i2, i3]) (fun c o hb q => (sb.2 c (fun q' => hb (by simp [q']))).trans (hk c o (fun q' => hb (by simp [q'])) (fun q' => hb (by simp [q'])) (fun q' => hb (by simp [q'])) (fun q' => hb (by simp [q'])) (fun q' => hb (by simp [q'])) q)) hf (Nat.le_refl _) nw
    refine ⟨.ref s.heap.objs.size, _, I1, rfl, ⟨_, x, y, v, rfl, I.hok.fresh (Nat.le_refl _), rfl, fun l hl => by rw [I.list_inj hl qx]; exact ex, fun l hl => by rw [I.tuple_inj hl qy]; exact ey, fun l hl => by rw [I.list_inj hl qv]; exact ev⟩, ⟨z'', ?_, ⟨u1, u2, u3, ?_⟩, ?_, ?_, ?_⟩, fun c hcm => ?_⟩
    · exact (sb.2 _ D.TIz).trans (hk _ _ D.TIz D.TITO D.TIi D.TIj D.TIk hI)
    · exact (sb.2 _ D.TOz).trans O'
    · exact h1'.at fun o q => (sb.2 _ D.iz).trans q
    · exact h2'.at fun o q => (sb.2 _ D.jz).trans q
    · exact h3'.at fun o q => (sb.2 _ D.kz).trans q
    · obtain ⟨_, e1, _⟩ := h1
      obtain ⟨_, e2, _⟩ := h2
      obtain ⟨_, e3, _⟩ := h3
      have hlt : c < s.heap.objs.size := six (P := fun c => c < s.heap.objs.size) zl (Heap.lt_size hI) (Heap.lt_size hO) (Heap.lt_size e1) (Heap.lt_size e2) (Heap.lt_size e3) c hcm
      rw [upd_ne ((Nat.ne_of_lt hlt))]
      exact (hf c hcm).1
  done := by
    intro X hP hw hK hc i pins s σ H E I; intro hf st hg
    subst hP hw hK
    obtain ⟨hz, hI, ⟨x0, y0, v0, hO⟩, h1, h2, h3⟩ := st
    obtain ⟨xs, qx, hend⟩ := hg
    obtain ⟨is1, r1, p1, _⟩ := I.list qx
    have l1 := r1.length
    exact py3end (I.ok.hd hc) D hz hI hO h1 p1.isList (by simp; omega) fun h' hk => ⟨rfl, I.turnedL (t' := s.toks) (ch := [z, TI, TO, i1, i2, i3]) (fun c o hb q => hk c o (fun q' => hb (by simp [q'])) (fun q' => hb (by simp [q'])) q) hf⟩
  self := fun A i s Q E st h => (wpAny_pyIter_zip st.1 h)
def iZip3 (K : PySem.W.Frag) (ta : TA) : TI := fun σ H R => ta σ H fun vs H1 => ∃ a b c xs ys zs, vs = [.ref a, .ref b, .ref c] ∧ SqL K H1 a xs ∧ SqT K H1 b ys ∧ SqL K H1 c zs ∧ R (It3 K a b c) H1
theorem pi_zip3 {X : Cx} {e e2 e3 : Expr} {ta : TA} {p pos tpos : Pos} {elts : List Expr} {kk : Nat} (hg : Gl X "zip") (hm : X.mg "zip" = none) (ha : PA X [e, e2, e3] ta)
    (hs : starEach [e, e2, e3] X.env = (false, eval e X.env) :: starEach [e2, e3] X.env := by rfl) (hpl : (backTo pos (starEach [e2, e3] X.env)).any (·.1) = false := by rfl) : PI X (.Tuple elts kk tpos) (.Call (.Name "zip" p) [e, e2, e3] [] pos) (iZip3 X.K ta) := by
  refine ⟨(fun pins s σ H R I h => ?_)⟩
  refine (Call_ (ld_blt I hg hm PyProof.Rows.boot_zip (PyProof.Rows.callWith_type1 (thn (ha.run pos pins s σ H _ I h) fun us s1 ⟨vs, H1, I1, r1, q1⟩ => ?_) hs hpl)))
  obtain ⟨a, b, c, xs, ys, zs, ex, qx, qy, qz, q⟩ := q1
  subst ex
  obtain ⟨is1, w1, p1, _⟩ := I1.list qx
  obtain ⟨is2, w2, p2, _⟩ := I1.tuple qy
  obtain ⟨is3, w3, p3, _⟩ := I1.list qz
  obtain ⟨o2, ho2, _⟩ := id p2
  have hus : us = [.ref a, .ref b, .ref c] := by
    cases r1 with
    | cons ra rr => cases rr with
      | cons rb rr => cases rr with
        | cons rc rr => cases rr; cases ra; cases rb; cases rc; rfl
  subst hus
  have fr : ∀ c', c' ∈ [s1.heap.objs.size + 5, s1.heap.objs.size + 3, s1.heap.objs.size + 4, s1.heap.objs.size, s1.heap.objs.size + 1, s1.heap.objs.size + 2] → FpOk X pins H1 c' := fun c' hcm => by
    have hle : s1.heap.objs.size ≤ c' := six (P := fun c => s1.heap.objs.size ≤ c) (by omega) (by omega) (by omega) (by omega) (by omega) (by omega) c' hcm
    exact (I1.fpOk hle (I1.hok.fresh hle))
  refine call3 p1.isList (show s1.heap.IsTuple b is2.toArray from p2) p3.isList fun h' hz hI hO h1 h2 h3 hk => wpAny_pyIter_zip hz ?_
  have I2 : Inv X pins σ H1 { s1 with heap := h' } := (I1.kept (t' := s1.toks) hk)
  exact ⟨s1.heap.objs.size + 5, [s1.heap.objs.size + 5, s1.heap.objs.size + 3, s1.heap.objs.size + 4, s1.heap.objs.size, s1.heap.objs.size + 1, s1.heap.objs.size + 2], _, _, H1, rfl, I2, turn3 (apt s1.heap.objs.size a b c p1.lt (Heap.lt_size ho2) p3.lt), ⟨hz, hI, ⟨_, _, _, hO⟩, h1, h2, h3⟩, fr, q⟩
/-- items of the three, all of one length -/
def zip3D : List D → List D → List D → List D
  | a :: as, b :: bs, c :: cs => .tup [a, b, c] :: zip3D as bs cs
  | _, _, _ => []
theorem zip3_get : ∀ {as bs cs : List D} {i : Nat} {a b c : D}, as[i]? = some a → bs[i]? = some b → cs[i]? = some c → (zip3D as bs cs)[i]? = some (.tup [a, b, c])
  | x :: as, y :: bs, z :: cs, 0, a, b, c, h1, h2, h3 => by simp at h1 h2 h3; subst h1 h2 h3; rfl
  | x :: as, y :: bs, z :: cs, i + 1, a, b, c, h1, h2, h3 => by
    have := zip3_get (as := as) (bs := bs) (cs := cs) (i := i) (by simpa using h1) (by simpa using h2) (by simpa using h3)
    simpa [zip3D] using this
  | [], _, _, _, _, _, _, h1, _, _ => by simp at h1
  | _ :: _, [], _, _, _, _, _, _, h2, _ => by simp at h2
  | _ :: _, _ :: _, [], _, _, _, _, _, _, h3 => by simp at h3
theorem zip3_len : ∀ {as bs cs : List D}, as.length = bs.length → bs.length = cs.length → (zip3D as bs cs).length = as.length
  | [], [], [], _, _ => rfl
  | x :: as, y :: bs, z :: cs, h1, h2 => by
    have := zip3_len (as := as) (bs := bs) (cs := cs) (by simpa using h1) (by simpa using h2)
    simp [zip3D, this]
theorem trip_rp {K : PySem.W.Frag} {J : JJ} {M : Addr → Prop} {H : Hp} {T : Addr} {a b c : D} {x y z : V} (hT : H T = none) (dm : ∀ b, M b → H b ≠ none) (h1 : Rp K J (hid M H) a x) (h2 : Rp K J (hid M H) b y) (h3 : Rp K J (hid M H) c z) :
    Rp K J (hid M (upd H T (.tup [x, y, z]))) (.tup [a, b, c]) (.ref T) := by
  have s : Same (hid M H) (hid M (upd H T (.tup [x, y, z]))) := hid_mono (fun _ z => z) (Same.upd hT)
  exact ⟨T, [x, y, z], rfl, hid_some.mpr ⟨fun z => dm T z hT, upd_same⟩, x, [y, z], rfl, h1.mono s, y, [z], rfl, h2.mono s, z, [], rfl, h3.mono s, rfl⟩
def wZip3 (wa : WL) : WL := fun γ Q => wa γ fun as => match as with
  | [.lst ds, .tup es, .lst fs] => (ds.length = es.length ∧ es.length = fs.length) ∧ Q (zip3D ds es fs)
  | _ => False
theorem it_zip3 {K : PySem.W.Frag} {Jd : JJ} {Hc : Hp} {G : Hp → Prop} {p q r : Addr} {xs ys zs : List V} {ds es fs : List D} (l1 : ds.length = es.length) (l2 : es.length = fs.length) (hG : ∀ H, G H → H p = some (.lst xs) ∧ H q = some (.tup ys) ∧ H r = some (.lst zs)) (r1 : Rps K Jd Hc ds xs) (r2 : Rps K Jd Hc es ys) (r3 : Rps K Jd Hc fs zs) :
    ItOk K Jd Hc G (It3 K p q r) (zip3D ds es fs) where
  go := fun i H hi g => by
    rw [zip3_len l1 l2] at hi
    have h1 : i < xs.length := by rw [r1.len]; omega
    have h2 : i < ys.length := by rw [r2.len]; omega
    have h3 : i < zs.length := by rw [r3.len]; omega
    exact ⟨xs, ys, zs, xs[i], ys[i], zs[i], SqL.of (hG H g).1, SqT.of (hG H g).2.1, SqL.of (hG H g).2.2, by simp [h1], by simp [h2], by simp [h3]⟩
  stop := fun H g => ⟨xs, SqL.of (hG H g).1, by rw [zip3_len l1 l2, r1.len]; exact Nat.le_refl _⟩
  yld := fun i H v H' hi g y => by
    obtain ⟨T, x, z, u, rfl, hT, rfl, h1, h2, h3⟩ := y
    obtain ⟨d, d1, d2⟩ := r1.got (h1 xs (SqL.of (hG _ g).1))
    obtain ⟨e, e1, e2⟩ := r2.got (h2 ys (SqT.of (hG _ g).2.1))
    obtain ⟨f, f1, f2⟩ := r3.got (h3 zs (SqL.of (hG _ g).2.2))
    exact ⟨_, zip3_get d1 e1 f1, Same.upd hT, fun M s dm => trip_rp hT dm (d2.mono s) (e2.mono s) (f2.mono s)⟩
theorem di_zip3 {K : PySem.W.Frag} {ta : TA} {wa : WL} (h : DA K ta wa) : DI K (iZip3 K ta) (wZip3 wa) := by
  intro c H Q R ek S hw k
  subst ek
  refine h c H _ _ rfl S hw fun vs H1 as n r q => ?_
  split at q
  · rename_i ds es fs
    obtain ⟨q0, q⟩ := q
    obtain ⟨v1, us1, rfl, ⟨a, xs, rfl, a1, a2⟩, v2, us2, rfl, ⟨b, ys, rfl, b1, b2⟩, v3, us3, rfl, ⟨d, zs, rfl, d1, d2⟩, e⟩ := r
    have e' : us3 = [] := e
    subst e'
    exact ⟨a, b, d, xs, ys, zs, rfl, SqL.of (cl_at a1), SqT.of (cl_at b1), SqL.of (cl_at d1), k _ H1 _ n q (it_zip3 q0.1 q0.2 (fun H2 g => ⟨g _ _ a1, g _ _ b1, g _ _ d1⟩) a2 b2 d2)⟩
  · exact q.elim
theorem i_zip3 {X : Cx} {e e2 e3 : Expr} {ta : TA} {wa : WL} {p pos tpos : Pos} {elts : List Expr} {kk : Nat} (hg : Gl X "zip") (hm : X.mg "zip" = none) (ha : QA X [e, e2, e3] ta wa)
    (hs : starEach [e, e2, e3] X.env = (false, eval e X.env) :: starEach [e2, e3] X.env := by rfl) (hpl : (backTo pos (starEach [e2, e3] X.env)).any (·.1) = false := by rfl) : QI X (.Tuple elts kk tpos) (.Call (.Name "zip" p) [e, e2, e3] [] pos) (iZip3 X.K ta) (wZip3 wa) := ⟨pi_zip3 hg hm ha.pa hs hpl, di_zip3 ha.da⟩
end Z3
/-! F11 -/
set_option Elab.async false
set_option linter.all false
set_option maxRecDepth 100000
set_option maxHeartbeats 4100000
namespace SP
open PySem PySem.Spec L2 PyProof.Rows DL
/-- the two pairs of a bar -/
abbrev barD (x y : Int) : D := .tup [.tup [.int 0, .int x], .tup [.int 1, .int y]]
/-- what a bar of the two stripes is -/
structure Bar (m n : Int) (c b : List Int) (r s x y : Int) : Prop where
  x0 : x ≠ 0
  y0 : y ≠ 0
  re : ∀ j, m * n ∣ x * n * NT.at_ c j + y * m * NT.at_ b j
  ne : ¬ m * n ∣ x * n * r + y * m * s
  xm : 0 ≤ x ∧ x < m
  yn : 0 ≤ y ∧ y < n
section
variable {base : Heap} {P : Program} {w : World} {K : PySem.W.Frag} {mg : Str → Option Value}
abbrev s_bar_of : Stmt := top 52
abbrev N_bar_of : List Str := ["stripes", "breadth", "numbers", "some", "steps", "row", "period", "step", "pairs", "number", "many", "stripe", "pair"]
theorem sc_bar_of : FnScope N_bar_of ["stripes", "breadth", "numbers"] (defScope s_bar_of) := ⟨rfl, rfl, rfl, by decide +kernel, rfl, by decide +kernel, by decide +kernel⟩

def wd_bar_of : List D → (D → Prop) → Prop := fun ds Q => ∃ (e f : Nat → Nat) (c b : List Int) (r s : Int) (t : Nat → Nat) (κ : Int), ds = [twoD e f c b r s, .int c.length, .lst [.int 0, .int 1]] ∧ VS e c r ∧ VS f b s ∧ c.length = b.length ∧ NT.Rel e f c b t κ ∧ ¬ NT.pr t NT.PL ∣ s - κ * r ∧
  ∀ x y, Bar (NT.pr e NT.PL) (NT.pr f NT.PL) c b r s x y → Q (barD x y)
theorem ok_bar_of (T : Txt mg) (F : FAt K mg "bar_of" s_bar_of) (D_product_at : Def P w K mg base 1 "product_at" ["row", "cell"] (spD K wd_product_at)) (D_relations_of : Def P w K mg base 4 "relations_of" ["stripes", "breadth"] (spD K wd_relations_of)) :
    Def P w K mg base 5 "bar_of" ["stripes", "breadth", "numbers"] (spD K wd_bar_of) := by
  refine def_of F (fun fa fd G => fn_D G sc_bar_of (fun ds Q h => ?_) (fun cdv A outer s0 H E hr ds Q h => ?_)) (fun _ _ _ _ _ _ us hl => match us, hl with | [_, _, _], _ => rfl)
  · obtain ⟨e, f, c, b, r, s, t, κ, rfl, _⟩ := h; rfl
  · obtain ⟨e, f, c, b, r, s, t, κ, rfl, v1, v2, hl, R, hn, hq⟩ := h
    have nd := sc_bar_of.nd
    refine ⟨_, _, (ss_cons (s_setLc (i := 3) (own := [("number", 9)]) rfl nd rfl rfl (sw_true rfl rfl rfl rfl) (ic_list (qvl 2)) (blkOk_by (N := N_bar_of) (sc := defScope s_bar_of) (by decide +kernel)) (fun _ _ _ _ _ => (g_name (i := 9) nd rfl (Or.inl rfl))) (fun _ _ _ _ _ => ts_nil) (fun _ _ _ _ _ => (q_ixT (qv 0) (qv 9))) (by decide))
    (ss_cons (s_asg (q_call D_relations_of (hr.mono (by decide)) (by rfl) (qa_cons (qv 3) (qa_cons (qv 1) qa_nil))) (g_tup rfl (gs_cons (g_name (i := 4) nd rfl (Or.inl rfl)) (gs_cons (g_name (i := 5) nd rfl (Or.inl rfl)) (gs_cons (g_name (i := 6) nd rfl (Or.inl rfl)) gs_nil)))))
    (ss_cons (s_for PassesOwn.never rfl (i_list (qv 4)) (g_name (i := 7) nd rfl (Or.inl rfl)) (ss_one (s_if (t_ne (q_mod (q_call D_product_at (hr.mono (by decide)) (by rfl) (qa_cons (qv 5) (qa_cons (qv 7) qa_nil))) (qv 6)) q_int) (ss_cons (s_setLc (i := 8) (own := [("number", 9), ("many", 10), ("stripe", 11)]) rfl nd rfl rfl (sw_true rfl rfl rfl rfl) (QI.c (Z3.i_zip3 (by rfl) T.n_zip (qa_cons (qv 2) (qa_cons (qv 7) (qa_cons (qv 3) qa_nil))))) (blkOk_by (N := N_bar_of) (sc := defScope s_bar_of) (by decide +kernel)) (fun _ _ _ _ _ => (g_tup rfl (gs_cons (g_name (i := 9) nd rfl (Or.inl rfl)) (gs_cons (g_name (i := 10) nd rfl (Or.inl rfl)) (gs_cons (g_name (i := 11) nd rfl (Or.inl rfl)) gs_nil))))) (fun _ _ _ _ _ => ts_nil) (fun _ _ _ _ _ => (q_tup (qa_cons (qv 9) (qa_cons (q_mod (qv 10) (q_ixT (qv 11) q_int)) qa_nil)))) (by decide))
    (ss_one (s_ret (q_ctl call_tuple_of dc_tupL (by rfl) T.n_tuple (QN.s (n_lc (own := [("pair", 12)]) rfl nd (ic_list (qvl 8)) (blkOk_by (N := N_bar_of) (sc := defScope s_bar_of) (by decide +kernel)) (fun _ _ _ _ _ => (g_name (i := 12) nd rfl (Or.inl rfl))) (fun _ _ _ _ _ => (ts_one (t_ne (q_ixT (qv 12) q_int) q_int))) (fun _ _ _ _ _ => (qv 12)) (by decide))))))) ss_nil)))
    (ss_one (s_ret q_non))))), ?_⟩
    refine ⟨rfl, e, f, c, b, r, s, rfl, v1, v2, hl, fun st s1 s2 s3 RS => ?_⟩
    have hm := v1.pos
    have hn0 := v2.pos
    obtain ⟨u, hu, hbad⟩ := NT.bar_ex R hn fun y h1 h2 => (RS y).mpr ⟨h1, h2⟩
    obtain ⟨g, p, q, g0, p0, q0, em, en, eP, e1, e2, P0⟩ := NT.lcm_eq hm hn0
    have hrow : ∀ x ∈ [NT.lcm (NT.pr e NT.PL) (NT.pr f NT.PL) / NT.pr e NT.PL * r, NT.lcm (NT.pr e NT.PL) (NT.pr f NT.PL) / NT.pr f NT.PL * s], Sz 6000 x := fun x hx => by
      have hp1 : p ≤ NT.pr e NT.PL := Int.le_of_dvd hm ⟨g, by rw [em, Int.mul_comm]⟩
      have hq1 : q ≤ NT.pr f NT.PL := Int.le_of_dvd hn0 ⟨g, by rw [en, Int.mul_comm]⟩
      have sp : Sz 140 p := sz_le v1.sz (by omega)
      have sq : Sz 140 q := sz_le v2.sz (by omega)
      simp only [List.not_mem_nil, List.mem_cons, or_false] at hx
      rcases hx with rfl | rfl
      · rw [e1]; exact sz_up (szmul sq (sz_lt v1.sz v1.r0 v1.r1)) (by decide)
      · rw [e2]; exact sz_up (szmul sp (sz_lt v2.sz v2.r0 v2.r1)) (by decide)
    refine forInv tI (fun xs γ => ∃ x7 x8 : Slot, γ = [.im (twoD e f c b r s), .im (.int c.length), .im (.lst [.int 0, .int 1]), .im (.lst [sD (NT.pr e NT.PL) c r, sD (NT.pr f NT.PL) b s]), .im (.lst (st.map tI)),
      .im (tI [NT.lcm (NT.pr e NT.PL) (NT.pr f NT.PL) / NT.pr e NT.PL * r, NT.lcm (NT.pr e NT.PL) (NT.pr f NT.PL) / NT.pr f NT.PL * s]), .im (.int (NT.lcm (NT.pr e NT.PL) (NT.pr f NT.PL))), x7, x8, .un, .un, .un, .un] ∧
      (∀ v ∈ xs, v ∈ st) ∧ ∃ u ∈ xs, ¬ NT.lcm (NT.pr e NT.PL) (NT.pr f NT.PL) ∣ NT.dt [NT.lcm (NT.pr e NT.PL) (NT.pr f NT.PL) / NT.pr e NT.PL * r, NT.lcm (NT.pr e NT.PL) (NT.pr f NT.PL) / NT.pr f NT.PL * s] u)
      (fun γ h => ?_) (fun v xs γ h N hN => ?_) st _ ⟨.un, .un, rfl, fun v hv => hv, u, hu, hbad⟩
    · obtain ⟨_, _, _, _, u, hu, _⟩ := h
      cases hu
    · obtain ⟨x7, x8, rfl, hsub, u, hu, hbad⟩ := h
      have hvst := hsub v List.mem_cons_self
      refine ⟨_, v, rfl, by show 2 ≤ 12; decide, hrow, s3 v hvst, P0, ?_⟩
      refine ifND (fun hne => ?_) (fun hz => ?_)
      · have hlv := s2 v hvst
        match v, hlv with
        | [x, y], _ =>
          have hne' : ¬ NT.lcm (NT.pr e NT.PL) (NT.pr f NT.PL) ∣ NT.dt [NT.lcm (NT.pr e NT.PL) (NT.pr f NT.PL) / NT.pr e NT.PL * r, NT.lcm (NT.pr e NT.PL) (NT.pr f NT.PL) / NT.pr f NT.PL * s] [x, y] := fun z => hne (NT.mod_eq_zero.mpr z)
          have hrel := fun j (hj : j < c.length) => by
            have := ((RS (NT.vec [x, y])).mp (.gen _ hvst)).2 j hj
            rw [← NT.dt_vec] at this
            exact this
          obtain ⟨b1, b2, b3, b4⟩ := NT.bar_says hm hn0 hl v1.uni v2.uni hrel hne'
          refine ⟨⟨rfl, rfl⟩, rfl, hm, rfl, hn0, rfl, ?_⟩
          refine ⟨rfl, ?_⟩
          show if (!decide (x % NT.pr e NT.PL = 0)) = true then _ else _
          rw [decide_eq_false b1]
          show if (!decide (y % NT.pr f NT.PL = 0)) = true then _ else _
          rw [decide_eq_false b2]
          exact hq _ _ ⟨b1, b2, b3, b4, ⟨Int.emod_nonneg _ (by omega), Int.emod_lt_of_pos _ hm⟩, ⟨Int.emod_nonneg _ (by omega), Int.emod_lt_of_pos _ hn0⟩⟩
      · refine hN _ ⟨_, _, rfl, fun w hw => hsub w (List.mem_cons_of_mem _ hw), u, ?_, hbad⟩
        rcases List.mem_cons.mp hu with e3 | e3
        · exact absurd (NT.mod_eq_zero.mp hz) (e3 ▸ hbad)
        · exact e3
abbrev s_bar_among : Stmt := top 54
abbrev N_bar_among : List Str := ["stripes", "breadth", "numbers"]
theorem sc_bar_among : FnScope N_bar_among ["stripes", "breadth", "numbers"] (defScope s_bar_among) := ⟨rfl, rfl, rfl, by decide +kernel, rfl, by decide +kernel, by decide +kernel⟩

theorem ok_bar_among (T : Txt mg) (F : FAt K mg "bar_among" s_bar_among) (D_bar_of : Def P w K mg base 5 "bar_of" ["stripes", "breadth", "numbers"] (spD K wd_bar_of)) (D_few_that_bar : Def P w K mg base 5 "few_that_bar" ["stripes", "breadth", "numbers"] (spD K wd_few_that_bar)) :
    Def P w K mg base 6 "bar_among" ["stripes", "breadth", "numbers"] (spD K wd_bar_of) := by
  refine def_of F (fun fa fd G => fn_D G sc_bar_among (fun ds Q h => ?_) (fun cdv A outer s0 H E hr ds Q h => ?_)) (fun _ _ _ _ _ _ us hl => match us, hl with | [_, _, _], _ => rfl)
  · obtain ⟨e, f, c, b, r, s, t, κ, rfl, _⟩ := h; rfl
  · obtain ⟨e, f, c, b, r, s, t, κ, rfl, v1, v2, hl, R, hn, hq⟩ := h
    have nd := sc_bar_among.nd
    refine ⟨_, _, (ss_one (s_ret (q_call D_bar_of (hr.mono (by decide)) (by rfl) (qa_cons (qv 0) (qa_cons (qv 1) (qa_cons (q_call D_few_that_bar (hr.mono (by decide)) (by rfl) (qa_cons (qv 0) (qa_cons (qv 1) (qa_cons (qv 2) qa_nil)))) qa_nil)))))), ?_⟩
    refine ⟨e, f, c, b, r, s, rfl, v1, v2, hl, ?_⟩
    exact ⟨e, f, c, b, r, s, t, κ, rfl, v1, v2, hl, R, hn, hq⟩
abbrev s_judge_meeting : Stmt := top 61
abbrev N_judge_meeting : List Str := ["stripes", "breadth", "found"]
theorem sc_judge_meeting : FnScope N_judge_meeting ["stripes"] (defScope s_judge_meeting) := ⟨rfl, rfl, rfl, by decide +kernel, rfl, by decide +kernel, by decide +kernel⟩

def wd_judge_meeting : List D → (D → Prop) → Prop := fun ds Q => ∃ (e f : Nat → Nat) (c b : List Int) (r s : Int) (t : Nat → Nat) (κ : Int), ds = [twoD e f c b r s] ∧ VS e c r ∧ VS f b s ∧ c.length = b.length ∧ NT.Rel e f c b t κ ∧
  (NT.pr t NT.PL ∣ s - κ * r → ∀ cell : List Int, cell.length = c.length → NT.pr e NT.PL ∣ NT.dt c cell - r → NT.pr f NT.PL ∣ NT.dt b cell - s → (∀ x ∈ cell, Sz 6000 x) → Q (.tup [.str "meet", tI cell])) ∧
  (¬ NT.pr t NT.PL ∣ s - κ * r → ∀ x y, Bar (NT.pr e NT.PL) (NT.pr f NT.PL) c b r s x y → Q (.tup [.str "never", barD x y]))
theorem fk_judge_meeting (T : Txt mg) (D_cells_on : Def P w K mg base 4 "cells_on" ["stripes", "breadth"] (spD K wd_cells_on)) (D_bar_among : Def P w K mg base 6 "bar_among" ["stripes", "breadth", "numbers"] (spD K wd_bar_of))
    (D_need_stripe_row : Def P w K mg base 7 "need_stripe_row" ["stripes"] (spD K wd_need_stripe_row)) {fa : Addr} {fd : FuncData} (G : FunD K "judge_meeting" "judge_meeting" (defArgs s_judge_meeting) (defBody s_judge_meeting) (defScope s_judge_meeting) [] [] fa fd) :
    FnOk P w K mg base CX0 8 fa fd ["stripes"] (spD K wd_judge_meeting) := by
  refine fn_D G sc_judge_meeting (fun ds Q h => ?_) (fun cdv A outer s0 H E hr ds Q h => ?_)
  · obtain ⟨e, f, c, b, r, s, t, κ, rfl, _⟩ := h; rfl
  · obtain ⟨e, f, c, b, r, s, t, κ, rfl, v1, v2, hl, R, hy, hno⟩ := h
    have nd := sc_judge_meeting.nd
    refine ⟨_, _, (ss_cons (s_set (i := 1) nd rfl (Or.inl rfl) (q_call D_need_stripe_row (hr.mono (by decide)) (by rfl) (qa_cons (qv 0) qa_nil)))
    (ss_cons (s_set (i := 2) nd rfl (Or.inl rfl) (q_call D_cells_on (hr.mono (by decide)) (by rfl) (qa_cons (qv 0) (qa_cons (qv 1) qa_nil))))
    (ss_cons (s_if (t_notN (qv 2)) (ss_one (s_ret (q_tup (qa_cons (q_gstr (by rfl) T.g_MEET) (qa_cons (q_ixT (qv 2) q_int) qa_nil))))) ss_nil)
    (ss_one (s_ret (q_tup (qa_cons (q_gstr (by rfl) T.g_NEVER) (qa_cons (q_call D_bar_among (hr.mono (by decide)) (by rfl) (qa_cons (qv 0) (qa_cons (qv 1) (qa_cons (QN.e (n_listRg rfl (by rfl) T.n_list (by rfl) T.n_range (q_cb call_len_seq dc_lenT (by rfl) T.n_len (qa_cons (qv 0) qa_nil)))) qa_nil)))) qa_nil)))))))), ?_⟩
    refine ⟨e, f, c, b, r, s, rfl, v1, v2, hl, ?_⟩
    refine .inl ⟨e, f, c, b, r, s, rfl, v1, v2, hl, fun hn => ?_, fun cell st hlc h1 h2 hz => ?_⟩
    · have h3 := NT.never_law hl v1.uni v2.uni R hn
      refine ⟨⟨by show (0 : Int) ≤ 2; decide, by show (2 : Int) ≤ 1000; decide⟩, ?_⟩
      exact ⟨e, f, c, b, r, s, t, κ, rfl, v1, v2, hl, R, h3, fun x y B => ⟨rfl, hno h3 x y B⟩⟩
    · have h3 := NT.meet_law hl R h1 h2
      exact ⟨rfl, hy h3 cell hlc h1 h2 hz⟩
theorem ok_judge_meeting (T : Txt mg) (F : FAt K mg "judge_meeting" s_judge_meeting) (D_cells_on : Def P w K mg base 4 "cells_on" ["stripes", "breadth"] (spD K wd_cells_on)) (D_bar_among : Def P w K mg base 6 "bar_among" ["stripes", "breadth", "numbers"] (spD K wd_bar_of))
    (D_need_stripe_row : Def P w K mg base 7 "need_stripe_row" ["stripes"] (spD K wd_need_stripe_row)) : Def P w K mg base 8 "judge_meeting" ["stripes"] (spD K wd_judge_meeting) :=
  def_of F (fun fa fd G => fk_judge_meeting T D_cells_on D_bar_among D_need_stripe_row G) (fun _ _ _ _ _ _ us hl => match us, hl with | [_], _ => rfl)
end
end SP
/-! L1 -/
set_option Elab.async false
set_option linter.all false
set_option maxRecDepth 100000
set_option maxHeartbeats 4100000
namespace SP
open PySem PySem.Spec L2 PyProof.Rows DL
section
variable {base : Heap} {P : Program} {w : World} {K : PySem.W.Frag} {mg : Str → Option Value}
/-- what the deck's dict holds -/
abbrev dkO (l : Addr) (x t : Int) : HO := .dK [(Sum.inr "cells", .ref l), (Sum.inr "mixed", .int x), (Sum.inr "turn", .int t)]
abbrev dkL (l : Addr) (x t : Int) : List (Key × V) := [(Sum.inr "cells", V.ref l), (Sum.inr "mixed", V.int x), (Sum.inr "turn", V.int t)]
theorem put_t (l : Addr) (x t u : Int) : putK (dkL l x t) (Sum.inr "turn") (.int u) = dkL l x u := rfl
theorem put_m (l : Addr) (x t u : Int) : putK (dkL l x t) (Sum.inr "mixed") (.int u) = dkL l u t := rfl
theorem val_m (l : Addr) (x t : Int) : valV (dkL l x t) (Sum.inr "mixed") = some (.int x) := rfl
theorem val_t (l : Addr) (x t : Int) : valV (dkL l x t) (Sum.inr "turn") = some (.int t) := rfl
theorem get_c {H : Hp} {a l : Addr} {x t : Int} (h : H a = some (dkO l x t)) : DGet H a (.str "cells") (some (.ref l)) := DGet.k (k := Sum.inr "cells") h
theorem get_m {H : Hp} {a l : Addr} {x t : Int} (h : H a = some (dkO l x t)) : DGet H a (.str "mixed") (some (.int x)) := by
  have := DGet.k (k := Sum.inr "mixed") h
  rw [val_m] at this; exact this
theorem get_t {H : Hp} {a l : Addr} {x t : Int} (h : H a = some (dkO l x t)) : DGet H a (.str "turn") (some (.int t)) := by
  have := DGet.k (k := Sum.inr "turn") h
  rw [val_t] at this; exact this
theorem set_t {H : Hp} {a l : Addr} {x t u : Int} (h : H a = some (dkO l x t)) : DPut H a (.str "turn") (.int u) (upd H a (dkO l x u)) := by
  have := DPut.k (k := Sum.inr "turn") (v := .int u) h (by show 3 < sizeLine; decide)
  rw [put_t] at this; exact this
theorem set_m {H : Hp} {a l : Addr} {x t u : Int} (h : H a = some (dkO l x t)) : DPut H a (.str "mixed") (.int u) (upd H a (dkO l u t)) := by
  have := DPut.k (k := Sum.inr "mixed") (v := .int u) h (by show 3 < sizeLine; decide)
  rw [put_m] at this; exact this
/-- a heap in which the deck may have turned, told by what it holds now -/
structure Dk (K : PySem.W.Frag) (H0 : Hp) (a l : Addr) (H : Hp) (cs : List Int) (x t : Int) : Prop where
  da : H a = some (dkO l x t)
  dl : H l = some (.lst (cs.map V.int))
  ne : a ≠ l
  fr : ∀ b o, b ≠ a → b ≠ l → H0 b = some o → H b = some o
theorem Dk.setT {H0 H : Hp} {a l : Addr} {cs : List Int} {x t : Int} (D : Dk K H0 a l H cs x t) (u : Int) : Dk K H0 a l (upd H a (dkO l x u)) cs x u :=
  ⟨upd_same, by rw [upd_ne D.ne.symm]; exact D.dl, D.ne, fun b o h1 h2 e => by rw [upd_ne h1]; exact D.fr b o h1 h2 e⟩
theorem Dk.setM {H0 H : Hp} {a l : Addr} {cs : List Int} {x t : Int} (D : Dk K H0 a l H cs x t) (u : Int) : Dk K H0 a l (upd H a (dkO l u t)) cs u t :=
  ⟨upd_same, by rw [upd_ne D.ne.symm]; exact D.dl, D.ne, fun b o h1 h2 e => by rw [upd_ne h1]; exact D.fr b o h1 h2 e⟩
theorem Dk.setC {H0 H : Hp} {a l : Addr} {cs ds : List Int} {x t : Int} (D : Dk K H0 a l H cs x t) : Dk K H0 a l (upd H l (.lst (ds.map V.int))) ds x t :=
  ⟨by rw [upd_ne D.ne]; exact D.da, upd_same, D.ne, fun b o h1 h2 e => by rw [upd_ne h2]; exact D.fr b o h1 h2 e⟩
theorem Dk.new {H0 H : Hp} {a l p : Addr} {cs : List Int} {x t : Int} {o : HO} (D : Dk K H0 a l H cs x t) (hp : H p = none) : Dk K H0 a l (upd H p o) cs x t := by
  have h1 : a ≠ p := fun e => by rw [← e, D.da] at hp; cases hp
  have h2 : l ≠ p := fun e => by rw [← e, D.dl] at hp; cases hp
  exact ⟨by rw [upd_ne h1]; exact D.da, by rw [upd_ne h2]; exact D.dl, D.ne, fun b o' n1 n2 e => by
    have h3 := D.fr b o' n1 n2 e
    have : b ≠ p := fun z => by rw [z, hp] at h3; cases h3
    rw [upd_ne this]; exact h3⟩
theorem Dk.nxt {H0 H : Hp} {a l : Addr} {cs : List Int} {x t : Int} (D : Dk K H0 a l H cs x t) (hl : cs.length ≤ 63) : Nxt (some (a, l)) H0 H :=
  ⟨fun b o n e => D.fr b o (fun z => n (.inl z)) (fun z => n (.inr z)) e, D.ne, cs, x, t, D.da, D.dl, hl⟩
abbrev s__law_draw : Stmt := top 65
abbrev N__law_draw : List Str := ["_law_deck_here", "_law_below", "_law_cell", "_law_figure"]
theorem sc__law_draw : FnScope N__law_draw ["_law_deck_here", "_law_below"] (defScope s__law_draw) := ⟨rfl, rfl, rfl, by decide +kernel, rfl, by decide +kernel, by decide +kernel⟩

def wd__law_draw : List D → (D → Prop) → Prop := fun ds Q => ∃ n : Int, ds = [.dk, .int n] ∧ 0 < n ∧ Sz 2000 n ∧ ∀ r, 0 ≤ r → r < n → Q (.int r)
theorem ints_shp (cs : List Int) : SeqAt.shaped (D.lst (iD cs)).py = true := (EqD.of (x := .lst (iD cs)) (y := .lst []) (b := PyData.eqv (D.lst (iD cs)).py (D.lst []).py) ⟨(shp_lst (n := 0) fun d hd => by obtain ⟨i, _, rfl⟩ := List.mem_map.mp hd; exact shp_int).lay, Nat.le_trans (shp_lst (n := 0) fun d hd => by obtain ⟨i, _, rfl⟩ := List.mem_map.mp hd; exact shp_int).dep (by decide)⟩ ⟨rfl, by decide⟩ rfl).sx
theorem ok__law_draw (T : Txt mg) (F : FAt K mg "_law_draw" s__law_draw) : Def P w K mg base 1 "_law_draw" ["_law_deck_here", "_law_below"] (spD K wd__law_draw) := by
  refine def_of F (fun f fd G => G.ok sc__law_draw (fun vs H Q E h => ?_) (fun cdv A outer s H vs Q E hr h => ?_)) (fun _ _ _ _ _ _ us hl => match us, hl with | [_, _], _ => rfl)
  · obtain ⟨J, M, ds, Qd, h1, h2, h3, r, ⟨n, rfl, _⟩, _⟩ := h
    exact r.len
  · obtain ⟨J, M, ds, Qd, h1, h2, h3, r, ⟨n, rfl, hn, sn, hq⟩, kq⟩ := h
    have nd := sc__law_draw.nd
    obtain ⟨v1, us1, rfl, ⟨a, l, rfl, rfl⟩, v2, us2, rfl, r2, e⟩ := r
    have e' : us2 = [] := e
    have r2' : v2 = .int n := r2
    subst e' r2'
    obtain ⟨ne, cs, x, t, da, dl, hl⟩ := h3
    have D0 : Dk K H a l H cs x t := ⟨da, dl, ne, fun b o _ _ e => e⟩
    have hu := hu_of hr
    have ns : ∀ y : Str, NoSl (.Constant (.str y) 0 ⟨0, 0, 0, 0⟩) := fun y ov iv => rfl
    refine ⟨_, pss_cons (ps_dput hu (pv 0) pe_str (pe_op op_add (pe_dget hu (pv 0) pe_str (fun _ _ => rfl)) pe_int) rfl)
      (pss_cons (ps_if (pt_cmpR (op_neD hr.units) (pe_dget hu (pv 0) pe_str (fun _ _ => rfl)) (pe_lst pa_nil) (nomark _))
        (pss_cons (ps_set (i := 2) nd rfl (Or.inl rfl) (pe_bm0 PySem.F.plainAttrs_list PySem.F.slot_list_pop PySem.F.type_list_pop mt_pop (pe_dget hu (pv 0) pe_str (fun _ _ => rfl))))
        (pss_cons (ps_if (pt_cmpR op_ge (pv 2) (pe_op op_pow pe_int pe_int) (nomark _))
          (pss_cons (ps_expr (pe_bm PySem.F.plainAttrs_list PySem.F.slot_list_append PySem.F.type_list_append mt_append (pe_dget hu (pv 0) pe_str (fun _ _ => rfl)) (pa_cons (pe_op op_fdivW (pv 2) (pe_callB (call_max2 rfl) (by rfl) T.n_max (by decide +kernel) (pa_cons pe_int (pa_cons (pv 1) pa_nil)))) pa_nil)))
          (pss_one (ps_ret (pe_op op_mod (pe_callTy call_int1 (by rfl) T.n_int (by decide +kernel) (pa_cons (pv 2) pa_nil)) (pv 1))))) pss_nil)
        (pss_one (ps_dput hu (pv 0) pe_str (pe_op op_mod (pe_callTy call_int1 (by rfl) T.n_int (by decide +kernel) (pa_cons (pe_op op_add (pe_dget hu (pv 0) pe_str (fun _ _ => rfl)) (pv 2)) pa_nil)) pe_int) rfl)))) pss_nil)
      (pss_cons (ps_set (i := 3) nd rfl (Or.inl rfl) (pe_op op_mod (pe_callTy call_int1 (by rfl) T.n_int (by decide +kernel) (pa_cons (pe_op op_add (pe_op op_add (pe_op op_mul (pe_dget hu (pv 0) pe_str (fun _ _ => rfl)) pe_int) (pe_op op_mul (pe_dget hu (pv 0) pe_str (fun _ _ => rfl)) pe_int)) pe_int) pa_nil)) pe_int))
      (pss_cons (ps_dput hu (pv 0) pe_str (pe_op op_mod (pe_callTy call_int1 (by rfl) T.n_int (by decide +kernel) (pa_cons (pe_op op_add (pe_op op_mul (pv 3) (pv 3)) (pe_dget hu (pv 0) pe_str (fun _ _ => rfl))) pa_nil)) pe_int) rfl)
      (pss_one (ps_ret (pe_op op_mod (pe_op op_fdivW (pe_dget hu (pv 0) pe_str (fun _ _ => rfl)) pe_int) (pv 1))))))), ?_⟩
    have hfig : ∀ y : Int, -(2 ^ 64) < y % 2305843009213693951 ∧ y % 2305843009213693951 < 2 ^ 64 := fun y => by omega
    have hM : (0 : Int) < 2305843009213693951 := by decide
    -- the turn
    refine ⟨_, rfl, a, _, rfl, get_t da, t, 1, rfl, rfl, _, rfl, a, _, rfl, set_t da, ?_⟩
    have D1 := D0.setT (t + 1)
    generalize upd H a (dkO l x (t + 1)) = H1 at D1 ⊢
    -- the test
    refine ⟨_, rfl, a, _, rfl, get_c D1.da, ?_⟩
    refine ⟨by decide, fun p hp => ?_⟩
    have D2 := D1.new (o := .lst []) hp
    have hpp : (upd H1 p (.lst [])) p = some (.lst []) := upd_same
    generalize upd H1 p (.lst []) = H2 at D2 hpp ⊢
    have rl : Rp K none H2 (.lst (iD cs)) (.ref l) := ⟨l, _, rfl, D2.dl, Rps.ofInts cs⟩
    have rp : Rp K none H2 (.lst []) (.ref p) := ⟨p, _, rfl, hpp, rfl⟩
    refine ⟨(D.lst (iD cs)).py, (D.lst []).py, rl.dp (shaped_lay (ints_shp cs)), rp.dp rfl, ints_shp cs, rfl, ?_⟩
    rcases List.eq_nil_or_concat cs with hc | ⟨cs0, z, hc⟩
    · subst hc
      refine ⟨_, rfl, ?_⟩
      refine ⟨_, rfl, a, _, rfl, get_m D2.da, _, 69621, rfl, rfl, .inr ⟨by decide, by decide⟩, _, rfl, a, _, rfl, get_t D2.da, _, 39373, rfl, rfl, .inr ⟨by decide, by decide⟩, _, _, rfl, rfl, _, 9, rfl, rfl, .inl ⟨_, rfl, _, 2305843009213693951, rfl, rfl, hM, ?_⟩⟩
      refine ⟨_, rfl, _, rfl, _, _, rfl, rfl, .inl (hfig _), _, rfl, a, _, rfl, get_t D2.da, _, _, rfl, rfl, .inl ⟨_, rfl, _, 2305843009213693951, rfl, rfl, hM, ?_⟩⟩
      refine ⟨_, rfl, a, _, rfl, set_m D2.da, ?_⟩
      have De := D2.setM
      refine ⟨_, rfl, a, _, rfl, get_m (De _).da, _, 2097152, rfl, rfl, divOk (b := 30) (by decide) (by decide), _, rfl, _, n, rfl, rfl, hn, ?_⟩
      exact kq _ _ (.int _) ((De _).nxt hl) rfl (hq _ (Int.emod_nonneg _ (by omega)) (Int.emod_lt_of_pos _ hn))
    · have hev : PyData.eqv (D.lst (iD cs)).py (D.lst []).py = false := by
        rw [hc]
        cases cs0 <;> rfl
      rw [hev]
      refine ⟨_, rfl, ?_⟩
      have hl0 : cs0.length ≤ 62 := by rw [hc] at hl; simp at hl; omega
      have hm : cs.map V.int = cs0.map V.int ++ [V.int z] := by rw [hc]; simp
      have dl2 : H2 l = some (.lst (cs0.map V.int ++ [V.int z])) := by rw [← hm]; exact D2.dl
      refine ⟨_, rfl, a, _, rfl, get_c D2.da, .inl ⟨rfl, _, SqL.of dl2⟩, l, _, .int z, rfl, rfl, dl2, by simp, ?_⟩
      rw [List.dropLast_concat]
      have D3 := D2.setC (ds := cs0)
      generalize upd H2 l (.lst (cs0.map V.int)) = H3 at D3 ⊢
      refine ⟨_, rfl, 10, 18, rfl, rfl, ⟨by decide, by decide, by decide⟩, z, _, rfl, rfl, _, rfl, ?_⟩
      refine ifD (fun hz => ?_) (fun hz => ?_)
      · have hmx : 0 < (if n > 2 then n else (2 : Int)) ∧ Sz 2000 (if n > 2 then n else (2 : Int)) := by
          split
          · exact ⟨hn, sn⟩
          · exact ⟨by decide, by show (2 : Int).natAbs < _; exact Nat.lt_of_lt_of_le (by decide : (2 : Int).natAbs < 2 ^ 2) (Nat.pow_le_pow_right (by decide) (by decide))⟩
        refine ⟨_, rfl, a, _, rfl, get_c D3.da, .inl ⟨rfl, _, SqL.of D3.dl⟩, _, rfl, _, rfl, 2, n, rfl, z, _, rfl, rfl, divOk hmx.1 hmx.2, l, _, _, rfl, rfl, D3.dl, small1000 (by rw [List.length_map]; omega), ?_⟩
        have hm2 : cs0.map V.int ++ [V.int (z / (if n > 2 then n else 2))] = (cs0 ++ [z / (if n > 2 then n else 2)]).map V.int := by simp
        rw [hm2]
        have D4 := D3.setC (ds := cs0 ++ [z / (if n > 2 then n else 2)])
        refine ⟨_, rfl, .inl ⟨z, rfl, _, rfl, z, n, rfl, rfl, hn, ?_⟩⟩
        exact kq _ _ (.int _) (D4.nxt (by simp; omega)) rfl (hq _ (Int.emod_nonneg _ (by omega)) (Int.emod_lt_of_pos _ hn))
      · refine ⟨_, rfl, a, _, rfl, get_m D3.da, _, rfl, _, z, rfl, rfl, .inl ⟨_, rfl, _, 2305843009213693951, rfl, rfl, hM, ?_⟩⟩
        refine ⟨_, rfl, a, _, rfl, set_m D3.da, ?_⟩
        have D4 := D3.setM ((x + z) % 2305843009213693951)
        refine ⟨_, rfl, a, _, rfl, get_m D4.da, _, 69621, rfl, rfl, .inr ⟨by decide, by decide⟩, _, rfl, a, _, rfl, get_t D4.da, _, 39373, rfl, rfl, .inr ⟨by decide, by decide⟩, _, _, rfl, rfl, _, 9, rfl, rfl, .inl ⟨_, rfl, _, 2305843009213693951, rfl, rfl, hM, ?_⟩⟩
        refine ⟨_, rfl, _, rfl, _, _, rfl, rfl, .inl (hfig _), _, rfl, a, _, rfl, get_t D4.da, _, _, rfl, rfl, .inl ⟨_, rfl, _, 2305843009213693951, rfl, rfl, hM, ?_⟩⟩
        refine ⟨_, rfl, a, _, rfl, set_m D4.da, ?_⟩
        have De := D4.setM
        refine ⟨_, rfl, a, _, rfl, get_m (De _).da, _, 2097152, rfl, rfl, divOk (b := 30) (by decide) (by decide), _, rfl, _, n, rfl, rfl, hn, ?_⟩
        exact kq _ _ (.int _) ((De _).nxt (by omega)) rfl (hq _ (Int.emod_nonneg _ (by omega)) (Int.emod_lt_of_pos _ hn))
end
end SP
/-! L2 -/
set_option Elab.async false
set_option linter.all false
set_option maxRecDepth 100000
set_option maxHeartbeats 4100000
namespace SP
open PySem PySem.Spec L2 PyProof.Rows DL
theorem gcd_step {a b : Int} (ha : 0 ≤ a) (hb : 0 < b) : NT.gcd b (a % b) = NT.gcd a b := by
  have h1 : NT.gcd b (a % b) ∣ NT.gcd a b := by
    refine NT.dvd_gcd ?_ (NT.gcd_dl b (a % b))
    have e : a = (a - a % b) + a % b := by omega
    rw [e]
    refine Int.dvd_add (Int.dvd_trans ?_ (NT.mod_dvd a b)) ?_
    · rw [← e]; exact NT.gcd_dl b (a % b)
    · rw [← e]; exact NT.gcd_dr b (a % b)
  have h2 : NT.gcd a b ∣ NT.gcd b (a % b) := by
    refine NT.dvd_gcd (NT.gcd_dr a b) ?_
    have e : a % b = a - (a - a % b) := by omega
    rw [e]
    exact Int.dvd_sub (NT.gcd_dl a b) (Int.dvd_trans (NT.gcd_dr a b) (NT.mod_dvd a b))
  exact Int.dvd_antisymm (NT.gcd_nn _ _) (NT.gcd_nn _ _) h1 h2
theorem gcd_zero {a : Int} (ha : 0 ≤ a) : NT.gcd a 0 = a := by
  show ((Nat.gcd a.natAbs (0 : Int).natAbs : Nat) : Int) = a
  simp; omega
section
variable {base : Heap} {P : Program} {w : World} {K : PySem.W.Frag} {mg : Str → Option Value}
abbrev s__law_pick : Stmt := top 66
abbrev N__law_pick : List Str := ["_law_deck_here", "_law_some"]
theorem sc__law_pick : FnScope N__law_pick ["_law_deck_here", "_law_some"] (defScope s__law_pick) := ⟨rfl, rfl, rfl, by decide +kernel, rfl, by decide +kernel, by decide +kernel⟩

def wd__law_pick : List D → (D → Prop) → Prop := fun ds Q => ∃ xs : List D, ds = [.dk, .lst xs] ∧ 0 < xs.length ∧ xs.length ≤ 1000 ∧ ∀ d ∈ xs, Q d
theorem ok__law_pick (T : Txt mg) (F : FAt K mg "_law_pick" s__law_pick) (D__law_draw : Def P w K mg base 1 "_law_draw" ["_law_deck_here", "_law_below"] (spD K wd__law_draw)) : Def P w K mg base 2 "_law_pick" ["_law_deck_here", "_law_some"] (spD K wd__law_pick) := by
  refine def_of F (fun f fd G => fn_D G sc__law_pick (fun ds Q h => ?_) (fun cdv A outer s H E hr ds Q h => ?_)) (fun _ _ _ _ _ _ us hl => match us, hl with | [_, _], _ => rfl)
  · obtain ⟨xs, rfl, _⟩ := h; rfl
  · obtain ⟨xs, rfl, h0, h1, hq⟩ := h
    have nd := sc__law_pick.nd
    refine ⟨_, _, (ss_one (s_ret (q_ixL (qvl 1) (q_call D__law_draw (hr.mono (by decide)) (by rfl) (qa_cons (qv 0) (qa_cons (q_cbl call_len_seq dc_lenL (by rfl) T.n_len (qvl 1)) qa_nil)))))), ?_⟩
    refine ⟨xs.length, rfl, by omega, ?_, fun r r0 r1 => ?_⟩
    · show ((xs.length : Nat) : Int).natAbs < 2 ^ 2000
      rw [Int.natAbs_natCast]
      exact Nat.lt_of_le_of_lt h1 (Nat.lt_of_lt_of_le (by decide : 1000 < 2 ^ 10) (Nat.pow_le_pow_right (by decide) (by decide)))
    · obtain ⟨k, rfl⟩ : ∃ k : Nat, r = (k : Nat) := ⟨r.toNat, by omega⟩
      have hk : k < xs.length := by omega
      exact atD_ok (List.getElem?_eq_getElem hk) (hq _ (List.getElem_mem hk))
abbrev s__law_wide : Stmt := top 67
abbrev N__law_wide : List Str := ["_law_deck_here", "_law_below", "_law_way", "_law_found", "_law_size"]
theorem sc__law_wide : FnScope N__law_wide ["_law_deck_here", "_law_below"] (defScope s__law_wide) := ⟨rfl, rfl, rfl, by decide +kernel, rfl, by decide +kernel, by decide +kernel⟩

def wd__law_wide : List D → (D → Prop) → Prop := fun ds Q => ∃ n : Int, ds = [.dk, .int n] ∧ 0 < n ∧ Sz 500 n ∧ ∀ r, 0 ≤ r → r < n → Q (.int r)
theorem ok__law_wide (T : Txt mg) (F : FAt K mg "_law_wide" s__law_wide) (D__law_draw : Def P w K mg base 1 "_law_draw" ["_law_deck_here", "_law_below"] (spD K wd__law_draw)) : Def P w K mg base 2 "_law_wide" ["_law_deck_here", "_law_below"] (spD K wd__law_wide) := by
  refine def_of F (fun f fd G => fn_D G sc__law_wide (fun ds Q h => ?_) (fun cdv A outer s H E hr ds Q h => ?_)) (fun _ _ _ _ _ _ us hl => match us, hl with | [_, _], _ => rfl)
  · obtain ⟨n, rfl, _⟩ := h; rfl
  · obtain ⟨n, rfl, hn, sn, hq⟩ := h
    have nd := sc__law_wide.nd
    refine ⟨_, _, (ss_cons (s_set (i := 2) nd rfl (Or.inl rfl) (q_call D__law_draw (hr.mono (by decide)) (by rfl) (qa_cons (qv 0) (qa_cons q_int qa_nil))))
    (ss_cons (s_if (t_lt (qv 2) q_int) (ss_one (s_ret (q_ifExp (t_eq (qv 2) q_int) q_int (q_sub (qv 1) q_int)))) ss_nil)
    (ss_cons (s_par (i := 3) (j := 4) rfl nd rfl rfl (by decide) rfl rfl (qa_cons (q_call D__law_draw (hr.mono (by decide)) (by rfl) (qa_cons (qv 0) (qa_cons q_int qa_nil))) (qa_cons q_int qa_nil)) rfl)
    (ss_cons (s_while PassesOwn.never (t_lt (qv 4) (qv 1)) (ss_one (s_par (i := 3) (j := 4) rfl nd rfl rfl (by decide) rfl rfl (qa_cons (q_add (q_mul (qv 3) q_int) (q_call D__law_draw (hr.mono (by decide)) (by rfl) (qa_cons (qv 0) (qa_cons q_int qa_nil)))) (qa_cons (q_mul (qv 4) q_int) qa_nil)) rfl)))
    (ss_one (s_ret (q_mod (q_ct call_int1 dc_int (by rfl) T.n_int (qa_cons (qv 3) qa_nil)) (qv 1)))))))), ?_⟩
    have s8 : Sz 2000 8 := sz_up (a := 4) (by decide) (by decide)
    have s1 : Sz 2000 1000003 := sz_up (a := 20) (by decide) (by decide)
    refine ⟨8, rfl, by decide, s8, fun way w0 w1 => ?_⟩
    refine ifD (fun h2 => ?_) (fun h2 => ?_)
    · refine ifD (fun h3 => ?_) (fun h3 => ?_)
      · exact hq 0 (by omega) hn
      · exact hq (n - 1) (by omega) (by omega)
    · refine ⟨1000003, rfl, by decide, s1, fun fd0 f0 f1 => ?_⟩
      refine ⟨fun γ => ∃ found size : Int, γ = [.im .dk, .im (.int n), .im (.int way), .im (.int found), .im (.int size)] ∧ 0 ≤ found ∧ found < size ∧ 1 ≤ size ∧ size ≤ n * 1000003 + 1000003,
        fun γ => match γ with | [_, _, _, _, .im (.int size)] => (n - size).toNat | _ => 0, ⟨fd0, 1000003, rfl, f0, f1, by decide, by omega⟩, ?_⟩
      rintro γ ⟨found, size, rfl, g0, g1, g2, g3⟩
      refine ifD (fun hlt => ?_) (fun hlt => ?_)
      · have sf : Sz 500 found := sz_lt sn g0 (by omega)
        have ss : Sz 500 size := sz_lt sn (by omega) hlt
        refine ⟨mulOk (b := 20) sf (by decide), 1000003, rfl, by decide, s1, fun r r0 r1 => ?_⟩
        refine ⟨mulOk (b := 20) ss (by decide), ⟨found * 1000003 + r, size * 1000003, rfl, by omega, by omega, by omega, by omega⟩, ?_⟩
        show (n - size * 1000003).toNat < (n - size).toNat
        omega
      · exact ⟨hn, hq _ (Int.emod_nonneg _ (by omega)) (Int.emod_lt_of_pos _ hn)⟩
abbrev s__law_common : Stmt := top 68
abbrev N__law_common : List Str := ["_law_one", "_law_other"]
theorem sc__law_common : FnScope N__law_common ["_law_one", "_law_other"] (defScope s__law_common) := ⟨rfl, rfl, rfl, by decide +kernel, rfl, by decide +kernel, by decide +kernel⟩

def wd__law_common : List D → (D → Prop) → Prop := fun ds Q => ∃ a b : Int, ds = [.int a, .int b] ∧ 0 ≤ a ∧ 0 ≤ b ∧ Q (.int (NT.gcd a b))
theorem ok__law_common (T : Txt mg) (F : FAt K mg "_law_common" s__law_common) : Def P w K mg base 1 "_law_common" ["_law_one", "_law_other"] (spD K wd__law_common) := by
  refine def_of F (fun f fd G => fn_D G sc__law_common (fun ds Q h => ?_) (fun cdv A outer s H E hr ds Q h => ?_)) (fun _ _ _ _ _ _ us hl => match us, hl with | [_, _], _ => rfl)
  · obtain ⟨a, b, rfl, _⟩ := h; rfl
  · obtain ⟨a, b, rfl, ha, hb, hq⟩ := h
    have nd := sc__law_common.nd
    refine ⟨_, _, (ss_cons (s_while PassesOwn.never (t_ne (qv 1) q_int) (ss_one (s_par (i := 0) (j := 1) rfl nd rfl rfl (by decide) rfl rfl (qa_cons (qv 1) (qa_cons (q_mod (q_ct call_int1 dc_int (by rfl) T.n_int (qa_cons (qv 0) qa_nil)) (qv 1)) qa_nil)) rfl)))
    (ss_one (s_ret (qv 0)))), ?_⟩
    refine ⟨fun γ => ∃ x y : Int, γ = [.im (.int x), .im (.int y)] ∧ 0 ≤ x ∧ 0 ≤ y ∧ NT.gcd x y = NT.gcd a b, fun γ => match γ with | [_, .im (.int y)] => y.toNat | _ => 0, ⟨a, b, rfl, ha, hb, rfl⟩, ?_⟩
    rintro γ ⟨x, y, rfl, hx, hy, hg⟩
    refine ifND (fun hz => ?_) (fun hz => ?_)
    · have hy0 : 0 < y := by omega
      have m0 := Int.emod_nonneg x (by omega : y ≠ 0)
      have m1 := Int.emod_lt_of_pos x hy0
      refine ⟨hy0, ⟨y, x % y, rfl, hy, m0, by rw [gcd_step hx hy0, hg]⟩, ?_⟩
      show (x % y).toNat < y.toNat
      omega
    · subst hz
      rw [gcd_zero hx] at hg
      subst hg
      exact hq
abbrev s__law_inverse : Stmt := top 69
abbrev N__law_inverse : List Str := ["_law_a", "_law_m", "_law_one", "_law_other", "_law_x", "_law_y", "_law_times"]
theorem sc__law_inverse : FnScope N__law_inverse ["_law_a", "_law_m"] (defScope s__law_inverse) := ⟨rfl, rfl, rfl, by decide +kernel, rfl, by decide +kernel, by decide +kernel⟩

theorem ok__law_inverse (T : Txt mg) (F : FAt K mg "_law_inverse" s__law_inverse) : Def P w K mg base 1 "_law_inverse" ["_law_a", "_law_m"] (spD K wd_inverse_of) := by
  refine def_of F (fun f fd G => fn_D G sc__law_inverse (fun ds Q h => ?_) (fun cdv A outer s H E hr ds Q h => ?_)) (fun _ _ _ _ _ _ us hl => match us, hl with | [_, _], _ => rfl)
  · obtain ⟨a, m, rfl, _⟩ := h; rfl
  · obtain ⟨a, m, rfl, hm, hs, hq⟩ := h
    have nd := sc__law_inverse.nd
    refine ⟨_, _, (ss_cons (s_asg (q_tup (qa_cons (qv 1) (qa_cons (q_mod (q_ct call_int1 dc_int (by rfl) T.n_int (qa_cons (qv 0) qa_nil)) (qv 1)) (qa_cons q_int (qa_cons q_int qa_nil))))) (g_tup rfl (gs_cons (g_name (i := 2) nd rfl (Or.inl rfl)) (gs_cons (g_name (i := 3) nd rfl (Or.inl rfl)) (gs_cons (g_name (i := 4) nd rfl (Or.inl rfl)) (gs_cons (g_name (i := 5) nd rfl (Or.inl rfl)) gs_nil))))))
    (ss_cons (s_while PassesOwn.never (t_ne (qv 3) q_int) (ss_cons (s_set (i := 6) nd rfl (Or.inl rfl) (q_div (qv 2) (qv 3)))
    (ss_one (s_asg (q_tup (qa_cons (qv 3) (qa_cons (q_sub (qv 2) (q_mul (qv 6) (qv 3))) (qa_cons (qv 5) (qa_cons (q_sub (qv 4) (q_mul (qv 6) (qv 5))) qa_nil))))) (g_tup rfl (gs_cons (g_name (i := 2) nd rfl (Or.inl rfl)) (gs_cons (g_name (i := 3) nd rfl (Or.inl rfl)) (gs_cons (g_name (i := 4) nd rfl (Or.inl rfl)) (gs_cons (g_name (i := 5) nd rfl (Or.inl rfl)) gs_nil)))))))))
    (ss_one (s_ret (q_mod (q_ct call_int1 dc_int (by rfl) T.n_int (qa_cons (qv 4) qa_nil)) (qv 1)))))), ?_⟩
    refine ⟨hm, rfl, ?_⟩
    refine ⟨fun γ => ∃ one other l r x, γ = [.im (.int a), .im (.int m), .im (.int one), .im (.int other), .im (.int l), .im (.int r), x] ∧ NT.EInv a m one other l r, fun γ => match γ with | [_, _, _, .im (.int o), _, _, _] => o.toNat | _ => 0, ⟨m, a % m, 0, 1, .un, rfl, NT.einv_start hm⟩, ?_⟩
    rintro γ ⟨one, other, l, r, x, rfl, I⟩
    refine ifND (fun hz => ?_) (fun hz => ?_)
    · have h0 := I.o0
      have h1 := I.o1
      have h2 := I.om
      have so : Sz 900 other := sz_le hs (by omega)
      have hq0 : 0 ≤ one / other := Int.ediv_nonneg (by omega) h0
      have hqm : one / other ≤ one := Int.ediv_le_self _ (by omega)
      have sq : Sz 900 (one / other) := sz_le hs (by omega)
      have sr : Sz 900 r := sz_le hs (by have := NT.einv_size I; omega)
      refine ⟨divOk (by omega) so, mulOk sq so, mulOk sq sr, rfl, ?_⟩
      have I' := NT.einv_step I hz
      exact ⟨⟨_, _, _, _, _, rfl, I'⟩, by have := I'.o1; have := I'.o0; show (one - one / other * other).toNat < other.toNat; omega⟩
    · subst hz
      exact ⟨hm, hq _ (Int.emod_nonneg _ (by omega)) (Int.emod_lt_of_pos _ hm) fun hc => NT.einv_end I hm hc⟩
abbrev s__law_part : Stmt := top 70
abbrev N__law_part : List Str := ["_law_m", "_law_p", "_law_found"]
theorem sc__law_part : FnScope N__law_part ["_law_m", "_law_p"] (defScope s__law_part) := ⟨rfl, rfl, rfl, by decide +kernel, rfl, by decide +kernel, by decide +kernel⟩

def wd__law_part : List D → (D → Prop) → Prop := fun ds Q => ∃ (e : Nat → Nat) (p : Nat), ds = [.int (NT.pr e NT.PL), .int p] ∧ p ∈ NT.PL ∧ Sz 140 (NT.pr e NT.PL) ∧ Q (.int ((p : Int) ^ e p))
theorem ok__law_part (T : Txt mg) (F : FAt K mg "_law_part" s__law_part) : Def P w K mg base 1 "_law_part" ["_law_m", "_law_p"] (spD K wd__law_part) := by
  refine def_of F (fun f fd G => fn_D G sc__law_part (fun ds Q h => ?_) (fun cdv A outer s H E hr ds Q h => ?_)) (fun _ _ _ _ _ _ us hl => match us, hl with | [_, _], _ => rfl)
  · obtain ⟨e, p, rfl, _⟩ := h; rfl
  · obtain ⟨e, p, rfl, hp, hs, hq⟩ := h
    have nd := sc__law_part.nd
    refine ⟨_, _, (ss_cons (s_set (i := 2) nd rfl (Or.inl rfl) q_int)
    (ss_cons (s_while PassesOwn.never (t_eq (q_mod (q_ct call_int1 dc_int (by rfl) T.n_int (qa_cons (qv 0) qa_nil)) (q_mul (qv 2) (qv 1))) q_int) (ss_one (s_set (i := 2) nd rfl (Or.inl rfl) (q_mul (qv 2) (qv 1)))))
    (ss_one (s_ret (qv 2))))), ?_⟩
    have hp2 := NT.PL_two hp
    have hm : 0 < NT.pr e NT.PL := NT.pr_pos e fun p hp => hp
    have hle : ∀ j, j ≤ e p → (p : Int) ^ j ≤ NT.pr e NT.PL := fun j hj => Int.le_of_dvd hm (Int.dvd_trans (NT.pow_dvd hj) (NT.pow_dvd_pr e hp))
    refine ⟨fun γ => ∃ j : Nat, γ = [.im (.int (NT.pr e NT.PL)), .im (.int p), .im (.int ((p : Int) ^ j))] ∧ j ≤ e p, fun γ => match γ with | [_, _, .im (.int f)] => (NT.pr e NT.PL - f).toNat | _ => 0, ⟨0, by rw [Int.pow_zero]; rfl, Nat.zero_le _⟩, ?_⟩
    rintro γ ⟨j, rfl, hj⟩
    have h0 := NT.pow_pos (p := p) (by omega) j
    have h1 := hle j hj
    have sj : Sz 140 ((p : Int) ^ j) := sz_le hs (by omega)
    have hpos : 0 < (p : Int) ^ j * (p : Int) := Int.mul_pos h0 (by omega)
    have es : (p : Int) ^ j * (p : Int) = (p : Int) ^ (j + 1) := (Int.pow_succ ..).symm
    have hmul : CMulW ((p : Int) ^ j) (p : Int) := mulOk sj (szk (a := 5) (by omega) (by decide))
    refine ⟨hmul, hpos, ifD (fun ht => ?_) (fun ht => ?_)⟩
    · refine ⟨hmul, ?_⟩
      rw [es] at ht ⊢
      have hj1 := NT.pow_part e hp (NT.mod_eq_zero.mp ht)
      have h2 := hle (j + 1) hj1
      refine ⟨⟨j + 1, rfl, hj1⟩, ?_⟩
      show (NT.pr e NT.PL - (p : Int) ^ (j + 1)).toNat < (NT.pr e NT.PL - (p : Int) ^ j).toNat
      have h3 := Int.mul_le_mul_of_nonneg_left (a := 2) (b := (p : Int)) (c := (p : Int) ^ j) (by omega) (by omega)
      rw [es] at h3
      omega
    · have : j = e p := by
        rcases Nat.lt_or_ge j (e p) with h | h
        · exfalso
          refine ht (NT.mod_eq_zero.mpr ?_)
          rw [es]
          exact Int.dvd_trans (NT.pow_dvd h) (NT.pow_dvd_pr e hp)
        · omega
      subst this
      exact hq
abbrev s__law_unit : Stmt := top 72
abbrev N__law_unit : List Str := ["_law_deck_here", "_law_p", "_law_q"]
theorem sc__law_unit : FnScope N__law_unit ["_law_deck_here", "_law_p", "_law_q"] (defScope s__law_unit) := ⟨rfl, rfl, rfl, by decide +kernel, rfl, by decide +kernel, by decide +kernel⟩

def wd__law_unit : List D → (D → Prop) → Prop := fun ds Q => ∃ (p j : Nat), ds = [.dk, .int p, .int ((p : Int) ^ j)] ∧ p ∈ NT.PL ∧ 0 < j ∧ Sz 140 ((p : Int) ^ j) ∧ ∀ u, 0 < u → u < (p : Int) ^ j → ¬ (p : Int) ∣ u → Q (.int u)
theorem ok__law_unit (T : Txt mg) (F : FAt K mg "_law_unit" s__law_unit) (D__law_draw : Def P w K mg base 1 "_law_draw" ["_law_deck_here", "_law_below"] (spD K wd__law_draw)) (D__law_wide : Def P w K mg base 2 "_law_wide" ["_law_deck_here", "_law_below"] (spD K wd__law_wide)) :
    Def P w K mg base 3 "_law_unit" ["_law_deck_here", "_law_p", "_law_q"] (spD K wd__law_unit) := by
  refine def_of F (fun f fd G => fn_D G sc__law_unit (fun ds Q h => ?_) (fun cdv A outer s H E hr ds Q h => ?_)) (fun _ _ _ _ _ _ us hl => match us, hl with | [_, _, _], _ => rfl)
  · obtain ⟨p, j, rfl, _⟩ := h; rfl
  · obtain ⟨p, j, rfl, hp, hj, hs, hq⟩ := h
    have nd := sc__law_unit.nd
    refine ⟨_, _, (ss_one (s_ret (q_add (q_add q_int (q_call D__law_draw (hr.mono (by decide)) (by rfl) (qa_cons (qv 0) (qa_cons (q_sub (qv 1) q_int) qa_nil)))) (q_mul (qv 1) (q_call D__law_wide (hr.mono (by decide)) (by rfl) (qa_cons (qv 0) (qa_cons (q_div (qv 2) (qv 1)) qa_nil))))))), ?_⟩
    have hp2 := NT.PL_two hp
    obtain ⟨k, rfl⟩ : ∃ k, j = k + 1 := ⟨j - 1, by omega⟩
    have hk := NT.pow_pos (p := p) (by omega) k
    have ek : (p : Int) ^ (k + 1) = (p : Int) ^ k * (p : Int) := Int.pow_succ ..
    have ed : (p : Int) ^ (k + 1) / (p : Int) = (p : Int) ^ k := by rw [ek]; exact Int.mul_ediv_cancel _ (by omega)
    have hle : (p : Int) ^ k ≤ (p : Int) ^ (k + 1) := by
      have := Int.mul_le_mul_of_nonneg_left (a := 1) (b := (p : Int)) (c := (p : Int) ^ k) (by omega) (by omega)
      omega
    have sk : Sz 140 ((p : Int) ^ k) := sz_le hs (by omega)
    refine ⟨(p : Int) - 1, rfl, by omega, sz_le (szk (k := p) (by omega) (by decide : 5 ≤ 2000)) (by omega), fun r r0 r1 => ?_⟩
    refine ⟨kdivOk (by omega) (by omega), ?_⟩
    rw [ed]
    refine ⟨(p : Int) ^ k, rfl, hk, sz_up sk (by decide), fun v v0 v1 => ?_⟩
    refine ⟨mulOk (a := 5) (szk (by omega) (by decide)) (sz_lt sk v0 v1), ?_⟩
    have hpv : 0 ≤ (p : Int) * v := Int.mul_nonneg (by omega) v0
    refine hq _ (by omega) ?_ fun hd => ?_
    · have h3 : (p : Int) * v ≤ (p : Int) * ((p : Int) ^ k - 1) := Int.mul_le_mul_of_nonneg_left (by omega) (by omega)
      have h4 : (p : Int) * ((p : Int) ^ k - 1) = (p : Int) ^ (k + 1) - p := by rw [ek]; grind
      omega
    · have h5 : (p : Int) ∣ 1 + r := by
        have e : 1 + r = (1 + r + (p : Int) * v) - (p : Int) * v := by omega
        rw [e]; exact Int.dvd_sub hd (Int.dvd_mul_right ..)
      have := Int.le_of_dvd (by omega) h5
      omega
abbrev s__law_power : Stmt := top 73
abbrev N__law_power : List Str := ["_law_deck_here", "_law_p", "_law_most", "_law_found", "_law_turn"]
theorem sc__law_power : FnScope N__law_power ["_law_deck_here", "_law_p", "_law_most"] (defScope s__law_power) := ⟨rfl, rfl, rfl, by decide +kernel, rfl, by decide +kernel, by decide +kernel⟩

def wd__law_power : List D → (D → Prop) → Prop := fun ds Q => ∃ (p k : Nat), ds = [.dk, .int p, .int ((p : Int) ^ k)] ∧ p ∈ NT.PL ∧ Sz 140 ((p : Int) ^ k) ∧ ∀ j, j ≤ k → Q (.int ((p : Int) ^ j))
theorem pow_dvd_iff {p : Nat} (hp : p ∈ NT.PL) {i k : Nat} (h : (p : Int) ^ i ∣ (p : Int) ^ k) : i ≤ k := by
  rw [← Int.natCast_pow, ← Int.natCast_pow] at h
  exact (Nat.pow_dvd_pow_iff_le_right (by have := NT.PL_two hp; omega)).mp (Int.natCast_dvd_natCast.mp h)
theorem ok__law_power (T : Txt mg) (F : FAt K mg "_law_power" s__law_power) (D__law_draw : Def P w K mg base 1 "_law_draw" ["_law_deck_here", "_law_below"] (spD K wd__law_draw)) (D__law_pick : Def P w K mg base 2 "_law_pick" ["_law_deck_here", "_law_some"] (spD K wd__law_pick)) :
    Def P w K mg base 3 "_law_power" ["_law_deck_here", "_law_p", "_law_most"] (spD K wd__law_power) := by
  refine def_of F (fun f fd G => fn_D G sc__law_power (fun ds Q h => ?_) (fun cdv A outer s H E hr ds Q h => ?_)) (fun _ _ _ _ _ _ us hl => match us, hl with | [_, _, _], _ => rfl)
  · obtain ⟨p, k, rfl, _⟩ := h; rfl
  · obtain ⟨p, k, rfl, hp, hs, hq⟩ := h
    have nd := sc__law_power.nd
    refine ⟨_, _, (ss_cons (s_set (i := 3) nd rfl (Or.inl rfl) q_int)
    (ss_cons (s_for PassesOwn.never rfl (i_range (by rfl) T.n_range (qa_cons (q_call D__law_pick (hr.mono (by decide)) (by rfl) (qa_cons (qv 0) (qa_cons (QN.e (n_lst (qa_cons q_int (qa_cons q_int (qa_cons q_int (qa_cons q_int (qa_cons q_int (qa_cons (q_call D__law_draw (hr.mono (by decide)) (by rfl) (qa_cons (qv 0) (qa_cons q_int qa_nil))) qa_nil)))))))) qa_nil))) qa_nil)) (g_name (i := 4) nd rfl (Or.inl rfl)) (ss_one (s_set (i := 3) nd rfl (Or.inl rfl) (q_ifExp (t_eq (q_mod (q_ct call_int1 dc_int (by rfl) T.n_int (qa_cons (qv 2) qa_nil)) (q_mul (qv 3) (qv 1))) q_int) (q_mul (qv 3) (qv 1)) (qv 3)))))
    (ss_one (s_ret (qv 3))))), ?_⟩
    have hp2 := NT.PL_two hp
    have s1 : Sz 2000 133 := sz_up (a := 8) (by decide) (by decide)
    refine ⟨133, rfl, by decide, s1, fun r r0 r1 => ?_⟩
    refine ⟨rfl, _, rfl, by show 0 < 6; decide, by show 6 ≤ 1000; decide, fun d hd => ?_⟩
    obtain ⟨n, rfl, n0, n1⟩ : ∃ n : Int, d = .int n ∧ 0 ≤ n ∧ n ≤ 133 := by
      simp only [List.mem_cons, List.not_mem_nil, or_false] at hd
      rcases hd with h | h | h | h | h | h <;> (subst h; exact ⟨_, rfl, by omega, by omega⟩)
    refine ⟨(by omega), (by omega), ?_⟩
    refine forRange (fun i => .int (i : Nat)) n.toNat (fun i γ => ∃ (j : Nat) (x : Slot), γ = [.im .dk, .im (.int p), .im (.int ((p : Int) ^ k)), .im (.int ((p : Int) ^ j)), x] ∧ j ≤ k) (fun γ h => ?_) (fun i γ hi h N hN => ?_) ⟨0, .un, by rw [Int.pow_zero]; rfl, Nat.zero_le _⟩
    · obtain ⟨j, x, rfl, hj⟩ := h
      exact hq j hj
    · obtain ⟨j, x, rfl, hj⟩ := h
      have h0 := NT.pow_pos (p := p) (by omega) j
      have hkp := NT.pow_pos (p := p) (by omega) k
      have h1 : (p : Int) ^ j ≤ (p : Int) ^ k := Int.le_of_dvd hkp (NT.pow_dvd hj)
      have sj : Sz 140 ((p : Int) ^ j) := sz_le hs (by omega)
      have hpos : 0 < (p : Int) ^ j * (p : Int) := Int.mul_pos h0 (by omega)
      have es : (p : Int) ^ j * (p : Int) = (p : Int) ^ (j + 1) := (Int.pow_succ ..).symm
      have hmul : CMulW ((p : Int) ^ j) (p : Int) := mulOk sj (szk (a := 5) (by omega) (by decide))
      refine ⟨hmul, hpos, ifD (fun ht => ?_) (fun ht => ?_)⟩
      · refine ⟨hmul, ?_⟩
        rw [es] at ht
        have hj1 := pow_dvd_iff hp (NT.mod_eq_zero.mp ht)
        refine hN _ ⟨j + 1, .im (.int (i : Nat)), ?_, hj1⟩
        rw [← es]; rfl
      · exact hN _ ⟨j, _, rfl, hj⟩
abbrev s__law_fraction : Stmt := top 77
abbrev N__law_fraction : List Str := ["_law_top", "_law_bottom", "_law_g"]
theorem sc__law_fraction : FnScope N__law_fraction ["_law_top", "_law_bottom"] (defScope s__law_fraction) := ⟨rfl, rfl, rfl, by decide +kernel, rfl, by decide +kernel, by decide +kernel⟩

def wd__law_fraction : List D → (D → Prop) → Prop := fun ds Q => ∃ a b : Int, ds = [.int a, .int b] ∧ 0 < b ∧ Sz 8000 b ∧ Q (frD a b)
theorem ok__law_fraction (T : Txt mg) (F : FAt K mg "_law_fraction" s__law_fraction) (D__law_common : Def P w K mg base 1 "_law_common" ["_law_one", "_law_other"] (spD K wd__law_common)) : Def P w K mg base 2 "_law_fraction" ["_law_top", "_law_bottom"] (spD K wd__law_fraction) := by
  refine def_of F (fun f fd G => fn_D G sc__law_fraction (fun ds Q h => ?_) (fun cdv A outer s H E hr ds Q h => ?_)) (fun _ _ _ _ _ _ us hl => match us, hl with | [_, _], _ => rfl)
  · obtain ⟨a, b, rfl, _⟩ := h; rfl
  · obtain ⟨a, b, rfl, hb, sb, hq⟩ := h
    have nd := sc__law_fraction.nd
    refine ⟨_, _, (ss_cons (s_set (i := 2) nd rfl (Or.inl rfl) (q_call D__law_common (hr.mono (by decide)) (by rfl) (qa_cons (q_cb call_abs dc_1 (by rfl) T.n_abs (qa_cons (qv 0) qa_nil)) (qa_cons (qv 1) qa_nil))))
    (ss_one (s_ret (q_tup (qa_cons (q_div (qv 0) (qv 2)) (qa_cons (q_div (qv 1) (qv 2)) qa_nil)))))), ?_⟩
    have eg : NT.gcd (if a < 0 then -a else a) b = NT.gcd a b := by
      show ((Nat.gcd (if a < 0 then -a else a).natAbs b.natAbs : Nat) : Int) = ((Nat.gcd a.natAbs b.natAbs : Nat) : Int)
      split
      · rw [Int.natAbs_neg]
      · rfl
    refine ⟨_, b, rfl, by show 0 ≤ (if a < 0 then -a else a); split <;> omega, by omega, ?_⟩
    show wSeq _ _ _ _
    rw [eg]
    have h0 : 0 < NT.gcd a b := NT.gcd_pos (by omega)
    have h1 : NT.gcd a b ≤ b := Int.le_of_dvd hb (NT.gcd_dr a b)
    have sg : Sz 8000 (NT.gcd a b) := sz_le sb (by omega)
    exact ⟨divOk h0 sg, divOk h0 sg, rfl, hq⟩
end
end SP
/-! L3 -/
set_option Elab.async false
set_option linter.all false
set_option maxRecDepth 100000
set_option maxHeartbeats 4100000
namespace SP
open PySem PySem.Spec L2 PyProof.Rows DL
theorem eqD_lst {xs ys : List Int} : EqD (.lst (iD xs)) (.lst (iD ys)) (decide (xs = ys)) := by
  have h : ∀ zs : List Int, Shp (.lst (iD zs)) 60 := fun zs => by
    have := shp_lst (n := 0) (ds := iD zs) fun d hd => by
      obtain ⟨i, _, rfl⟩ := List.mem_map.mp hd
      exact shp_int
    exact ⟨this.lay, Nat.le_trans this.dep (by decide)⟩
  exact EqD.of (h xs) (h ys) (by simp only [D.py, PyData.eqv]; exact eqv_ints xs ys)
theorem cop_gcd {a m : Int} (hc : NT.Cop a m) : NT.gcd a m = 1 := hc.gcd
section
variable {base : Heap} {P : Program} {w : World} {K : PySem.W.Frag} {mg : Str → Option Value}
abbrev s__law_otherwise : Stmt := top 78
abbrev N__law_otherwise : List Str := ["_law_deck_here", "_law_stripe", "_law_m", "_law_c", "_law_r", "_law_u", "_law_item"]
theorem sc__law_otherwise : FnScope N__law_otherwise ["_law_deck_here", "_law_stripe"] (defScope s__law_otherwise) := ⟨rfl, rfl, rfl, by decide +kernel, rfl, by decide +kernel, by decide +kernel⟩

def wd__law_otherwise : List D → (D → Prop) → Prop := fun ds Q => ∃ (e : Nat → Nat) (c : List Int) (r : Int), ds = [.dk, sD (NT.pr e NT.PL) c r] ∧ VS e c r ∧ ∀ u, NT.Cop u (NT.pr e NT.PL) → Q (sD (NT.pr e NT.PL) (c.map fun x => u * x % NT.pr e NT.PL) (u * r % NT.pr e NT.PL))
theorem ok__law_otherwise (T : Txt mg) (F : FAt K mg "_law_otherwise" s__law_otherwise) (D__law_common : Def P w K mg base 1 "_law_common" ["_law_one", "_law_other"] (spD K wd__law_common)) (D__law_wide : Def P w K mg base 2 "_law_wide" ["_law_deck_here", "_law_below"] (spD K wd__law_wide)) :
    Def P w K mg base 3 "_law_otherwise" ["_law_deck_here", "_law_stripe"] (spD K wd__law_otherwise) := by
  refine def_of F (fun f fd G => fn_D G sc__law_otherwise (fun ds Q h => ?_) (fun cdv A outer s H E hr ds Q h => ?_)) (fun _ _ _ _ _ _ us hl => match us, hl with | [_, _], _ => rfl)
  · obtain ⟨e, c, r, rfl, _⟩ := h; rfl
  · obtain ⟨e, c, r, rfl, v, hq⟩ := h
    have nd := sc__law_otherwise.nd
    refine ⟨_, _, (ss_cons (s_asg (qv 1) (g_tup rfl (gs_cons (g_name (i := 2) nd rfl (Or.inr rfl)) (gs_cons (g_name (i := 3) nd rfl (Or.inl rfl)) (gs_cons (g_name (i := 4) nd rfl (Or.inl rfl)) gs_nil)))))
    (ss_cons (s_set (i := 5) nd rfl (Or.inr rfl) (q_add q_int (q_call D__law_wide (hr.mono (by decide)) (by rfl) (qa_cons (qv 0) (qa_cons (qv 2) qa_nil)))))
    (ss_cons (s_while PassesOwn.never (t_ne (q_call D__law_common (hr.mono (by decide)) (by rfl) (qa_cons (qv 5) (qa_cons (qv 2) qa_nil))) q_int) (ss_one (s_set (i := 5) nd rfl (Or.inr rfl) (q_add (qv 5) q_int))))
    (ss_one (s_ret (q_tup (qa_cons (qv 2) (qa_cons (q_ctl call_tuple_of dc_tupL (by rfl) T.n_tuple (QN.s (n_lc (own := [("_law_item", 6)]) rfl nd (QI.c (i_tup (qv 3))) (blkOk_by (N := N__law_otherwise) (sc := defScope s__law_otherwise) (by decide +kernel)) (fun _ _ _ _ _ => (g_name (i := 6) nd rfl (Or.inl rfl))) (fun _ _ _ _ _ => ts_nil) (fun _ _ _ _ _ => (q_mod (q_ct call_int1 dc_int (by rfl) T.n_int (qa_cons (q_mul (qv 5) (qv 6)) qa_nil)) (qv 2))) (by decide)))) (qa_cons (q_mod (q_ct call_int1 dc_int (by rfl) T.n_int (qa_cons (q_mul (qv 5) (qv 4)) qa_nil)) (qv 2)) qa_nil))))))))), ?_⟩
    have hm := v.pos
    have l3 := v.l3
    refine ⟨NT.pr e NT.PL, rfl, hm, sz_up v.sz (by decide), fun k k0 k1 => ?_⟩
    refine ⟨fun γ => ∃ u : Int, γ = [.im .dk, .im (sD (NT.pr e NT.PL) c r), .im (.int (NT.pr e NT.PL)), .im (tI c), .im (.int r), .im (.int u), .un] ∧ 1 ≤ u ∧ u ≤ NT.pr e NT.PL + 1, fun γ => match γ with | [_, _, _, _, _, .im (.int u), _] => (NT.pr e NT.PL + 1 - u).toNat | _ => 0, ⟨1 + k, rfl, by omega, by omega⟩, ?_⟩
    rintro γ ⟨u, rfl, u0, u1⟩
    refine ⟨u, NT.pr e NT.PL, rfl, by omega, by omega, ?_⟩
    refine ifND (fun hne => ?_) (fun he => ?_)
    · have hu : u ≠ NT.pr e NT.PL + 1 := fun z => hne (cop_gcd (by rw [z]; exact ⟨1, -1, by omega⟩))
      refine ⟨⟨u + 1, rfl, by omega, by omega⟩, ?_⟩
      show (NT.pr e NT.PL + 1 - (u + 1)).toNat < (NT.pr e NT.PL + 1 - u).toNat
      omega
    · have hc := NT.Cop.of_gcd he
      have su : Sz 200 u := by
        have h1 : Sz 140 (NT.pr e NT.PL) := v.sz
        have h2 := sz_add h1 (show Sz 140 (1 : Int) from sz_le h1 (by omega))
        exact sz_up (sz_le h2 (by omega)) (by decide)
      refine ⟨few_map (by omega), lcMap D.int (fun x => .int (u * x % NT.pr e NT.PL)) c [] (fun x hx R1 R2 h1 => ⟨mulOk su (v.c4 x hx), hm, h1⟩) ?_⟩
      have e2 : ([] ++ c.map fun x => D.int (u * x % NT.pr e NT.PL)) = iD (c.map fun x => u * x % NT.pr e NT.PL) := by
        rw [List.nil_append]; simp only [iD, List.map_map]; rfl
      rw [e2]
      exact ⟨mulOk su (sz_lt v.sz v.r0 v.r1), hm, rfl, hq u hc⟩
abbrev s__law_put : Stmt := top 75
abbrev N__law_put : List Str := ["_law_row", "_law_size", "_law_more", "_law_q", "_law_inverse_here", "_law_item", "_law_other"]
theorem sc__law_put : FnScope N__law_put ["_law_row", "_law_size", "_law_more", "_law_q"] (defScope s__law_put) := ⟨rfl, rfl, rfl, by decide +kernel, rfl, by decide +kernel, by decide +kernel⟩

def wd__law_put : List D → (D → Prop) → Prop := fun ds Q => ∃ (row more : List Int) (z q : Int), ds = [.lst (iD row), .int z, .lst (iD more), .int q] ∧ 0 < z ∧ 0 < q ∧ Sz 140 z ∧ Sz 140 q ∧ NT.Cop z q ∧ row.length = more.length ∧ row.length ≤ 4 ∧ (∀ x ∈ row, 0 ≤ x ∧ x < z) ∧ (∀ y ∈ more, 0 ≤ y ∧ y < q) ∧
  ∀ res : List Int, res.length = row.length → (∀ i, z ∣ NT.at_ res i - NT.at_ row i) → (∀ i, q ∣ NT.at_ res i - NT.at_ more i) → (∀ x ∈ res, 0 ≤ x ∧ x < z * q) → Q (.lst (iD res))
theorem ok__law_put (T : Txt mg) (F : FAt K mg "_law_put" s__law_put) (D__law_inverse : Def P w K mg base 1 "_law_inverse" ["_law_a", "_law_m"] (spD K wd_inverse_of)) : Def P w K mg base 2 "_law_put" ["_law_row", "_law_size", "_law_more", "_law_q"] (spD K wd__law_put) := by
  refine def_of F (fun f fd G => fn_D G sc__law_put (fun ds Q h => ?_) (fun cdv A outer s H E hr ds Q h => ?_)) (fun _ _ _ _ _ _ us hl => match us, hl with | [_, _, _, _], _ => rfl)
  · obtain ⟨row, more, z, q, rfl, _⟩ := h; rfl
  · obtain ⟨row, more, z, q, rfl, hz, hq0, sz, sq, hc, hl, h4, hrow, hmore, hq⟩ := h
    have nd := sc__law_put.nd
    refine ⟨_, _, (ss_cons (s_set (i := 4) nd rfl (Or.inr rfl) (q_call D__law_inverse (hr.mono (by decide)) (by rfl) (qa_cons (qv 1) (qa_cons (qv 3) qa_nil))))
    (ss_one (s_ret (QN.e (n_lc (own := [("_law_item", 5), ("_law_other", 6)]) rfl nd (QI.c (i_zip (by rfl) T.n_zip (qa_cons (qv 0) (qa_cons (qv 2) qa_nil)))) (blkOk_by (N := N__law_put) (sc := defScope s__law_put) (by decide +kernel)) (fun _ _ _ _ _ => (g_tup rfl (gs_cons (g_name (i := 5) nd rfl (Or.inl rfl)) (gs_cons (g_name (i := 6) nd rfl (Or.inl rfl)) gs_nil)))) (fun _ _ _ _ _ => ts_nil) (fun _ _ _ _ _ => (q_add (qv 5) (q_mul (qv 1) (q_mod (q_ct call_int1 dc_int (by rfl) T.n_int (qa_cons (q_mul (q_sub (qv 6) (qv 5)) (qv 4)) qa_nil)) (qv 3))))) (by decide)))))), ?_⟩
    refine ⟨z, q, rfl, hq0, sz_up sq (by decide), fun inv i0 i1 i2 => ?_⟩
    have hi := i2 hc
    have e := zipI row more
    show few (List.zipWith (fun a b => D.tup [a, b]) (iD row) (iD more)) ∧ _
    rw [e]
    refine ⟨few_map (by rw [List.length_zip]; omega), lcMap zI (fun p => .int (p.1 + z * ((p.2 - p.1) * inv % q))) (row.zip more) [] (fun p hp R1 R2 h1 => ?_) ?_⟩
    · obtain ⟨m1, m2⟩ := List.of_mem_zip hp
      have b1 := hrow _ m1
      have b2 := hmore _ m2
      exact ⟨mulOk (sz_sub (sz_lt sq b2.1 b2.2) (sz_lt sz b1.1 b1.2)) (sz_lt sq i0 i1), hq0, mulOk sz (sz_lt sq (Int.emod_nonneg _ (by omega)) (Int.emod_lt_of_pos _ hq0)), h1⟩
    · have e2 : ([] ++ (row.zip more).map fun p => D.int (p.1 + z * ((p.2 - p.1) * inv % q))) = iD ((row.zip more).map fun p => p.1 + z * ((p.2 - p.1) * inv % q)) := by
        rw [List.nil_append]; simp only [iD, List.map_map]; rfl
      rw [e2]
      have hat : ∀ i, NT.at_ ((row.zip more).map fun p => p.1 + z * ((p.2 - p.1) * inv % q)) i = if i < row.length then NT.at_ row i + z * ((NT.at_ more i - NT.at_ row i) * inv % q) else 0 := fun i => by
        by_cases hi : i < row.length
        · rw [if_pos hi]
          have hi2 : i < more.length := by omega
          rw [NT.at_get (by rw [List.length_map, List.length_zip]; omega), List.getElem_map, List.getElem_zip, NT.at_get hi, NT.at_get hi2]
        · rw [if_neg hi, NT.at_ge (by rw [List.length_map, List.length_zip]; omega)]
      refine hq _ (by rw [List.length_map, List.length_zip]; omega) (fun i => ?_) (fun i => ?_) (fun x hx => ?_)
      · rw [hat i]
        split
        · exact ⟨(NT.at_ more i - NT.at_ row i) * inv % q, by omega⟩
        · rw [NT.at_ge (by omega)]; exact Int.dvd_zero _
      · rw [hat i]
        split
        · rename_i h
          have b1 := hrow _ (NT.at_memlt h)
          exact (NT.jr_step (rest := NT.at_ more i) b1.1 b1.2 hq0 hi).2.2.2
        · rw [NT.at_ge (by omega)]; exact Int.dvd_zero _
      · obtain ⟨p, hp, rfl⟩ := List.mem_map.mp hx
        obtain ⟨m1, m2⟩ := List.of_mem_zip hp
        have b1 := hrow _ m1
        have h := NT.jr_step (rest := p.2) b1.1 b1.2 hq0 hi
        exact ⟨h.1, h.2.1⟩
abbrev s__law_are_integers : Stmt := top 79
abbrev N__law_are_integers : List Str := ["_law_thing", "_law_item"]
theorem sc__law_are_integers : FnScope N__law_are_integers ["_law_thing"] (defScope s__law_are_integers) := ⟨rfl, rfl, rfl, by decide +kernel, rfl, by decide +kernel, by decide +kernel⟩

theorem ok__law_are_integers (T : Txt mg) (F : FAt K mg "_law_are_integers" s__law_are_integers) : Def P w K mg base 1 "_law_are_integers" ["_law_thing"] (spD K wd_are_integers) := by
  refine def_of F (fun f fd G => fn_D G sc__law_are_integers (fun ds Q h => ?_) (fun cdv A outer s H E hr ds Q h => ?_)) (fun _ _ _ _ _ _ us hl => match us, hl with | [_], _ => rfl)
  · obtain ⟨i, rfl, _⟩ := h; rfl
  · obtain ⟨ns, rfl, hl, hq⟩ := h
    have nd := sc__law_are_integers.nd
    refine ⟨_, _, (ss_cons (s_if (t_not (q_val (q_isi (T' := "tuple") (by rfl) T.n_isinstance (by rfl) T.n_tuple (qv 0)))) (ss_one (s_ret q_bl)) ss_nil)
    (ss_one (s_ret (q_eqD hr (QN.e (n_lc (own := [("_law_item", 1)]) rfl nd (QI.c (i_tup (qv 0))) (blkOk_by (N := N__law_are_integers) (sc := defScope s__law_are_integers) (by decide +kernel)) (fun _ _ _ _ _ => (g_name (i := 1) nd rfl (Or.inl rfl))) (fun _ _ _ _ _ => (ts_one (QW.t (w_or (t_not (q_val (q_isi (T' := "int") (by rfl) T.n_isinstance (by rfl) T.n_int (qv 1)))) (w_or1 (q_val (q_isi (T' := "bool") (by rfl) T.n_isinstance (by rfl) T.n_bool (qv 1)))))))) (fun _ _ _ _ _ => (qv 1)) (by decide))) (QN.e (n_lst qa_nil)))))), ?_⟩
    refine ⟨few_map hl, lcFilt D.int (fun _ => false) D.int ns [] (fun x hx R1 R2 h1 h2 => h2 rfl) ?_⟩
    rw [List.filter_eq_nil_iff.mpr (fun _ _ => by simp)]
    refine ⟨rfl, true, EqD.of (x := .lst []) (y := .lst []) ⟨rfl, by decide⟩ ⟨rfl, by decide⟩ rfl, hq⟩
end
end SP
/-! L3b -/
set_option Elab.async false
set_option linter.all false
set_option profiler true
set_option profiler.threshold 1500
set_option maxRecDepth 100000
set_option maxHeartbeats 4100000
namespace SP
open PySem PySem.Spec L2 PyProof.Rows DL
section
variable {base : Heap} {P : Program} {w : World} {K : PySem.W.Frag} {mg : Str → Option Value}
abbrev s__law_is_meeting : Stmt := top 80
abbrev N__law_is_meeting : List Str := ["_law_paper", "_law_one", "_law_other", "_law_meets", "_law_m", "_law_c", "_law_r", "_law_n", "_law_b", "_law_s", "_law_near", "_law_far", "_law_k", "_law_l", "_law_item", "_law_at", "_law_more"]
theorem sc__law_is_meeting : FnScope N__law_is_meeting ["_law_paper", "_law_one", "_law_other", "_law_meets"] (defScope s__law_is_meeting) := ⟨rfl, rfl, rfl, by decide +kernel, rfl, by decide +kernel, by decide +kernel⟩

def wd__law_is_meeting : List D → (D → Prop) → Prop := fun ds Q => ∃ (m n r s : Int) (c b : List Int), 0 < m ∧ 0 < n ∧ Sz 140 m ∧ Sz 140 n ∧ Sz 140 r ∧ Sz 140 s ∧ (∀ x ∈ c, Sz 140 x) ∧ (∀ x ∈ b, Sz 140 x) ∧ c.length = b.length ∧ c.length ≤ 3 ∧
  ((∃ cell : List Int, ds = [.tup [.str "meet", tI cell], sD m c r, sD n b s, .bl true] ∧ cell.length = c.length ∧ m ∣ NT.dt c cell - r ∧ n ∣ NT.dt b cell - s ∧ (∀ x ∈ cell, Sz 6000 x) ∧ Q (.bl true)) ∨
   ∃ x y : Int, ds = [.tup [.str "never", barD x y], sD m c r, sD n b s, .bl false] ∧ Bar m n c b r s x y ∧ Q (.bl true))
theorem ok__law_is_meeting (T : Txt mg) (F : FAt K mg "_law_is_meeting" s__law_is_meeting) (D__law_are_integers : Def P w K mg base 1 "_law_are_integers" ["_law_thing"] (spD K wd_are_integers)) : Def P w K mg base 2 "_law_is_meeting" ["_law_paper", "_law_one", "_law_other", "_law_meets"] (spD K wd__law_is_meeting) := by
  refine def_of F (fun f fd G => fn_D G sc__law_is_meeting (fun ds Q h => ?_) (fun cdv A outer s H E hr ds Q h => ?_)) (fun _ _ _ _ _ _ us hl => match us, hl with | [_, _, _, _], _ => rfl)
  · obtain ⟨m, n, r, s, c, b, _, _, _, _, _, _, _, _, _, _, ⟨cell, rfl, _⟩ | ⟨x, y, rfl, _⟩⟩ := h <;> rfl
  · obtain ⟨m, n, r, s, c, b, hm, hn, sm, sn, sr, ss, sc, sb, hl, l3, hh⟩ := h
    have nd := sc__law_is_meeting.nd
    refine ⟨_, _, (ss_cons (s_if (QW.t (w_or (t_not (q_val (q_isi (T' := "tuple") (by rfl) T.n_isinstance (by rfl) T.n_tuple (qv 0)))) (w_or (t_ne (q_cb call_len_seq dc_lenT (by rfl) T.n_len (qa_cons (qv 0) qa_nil)) q_int) (w_or1 (t_neS2 (q_ixT (qv 0) q_int) (q_ifExp (q_val (qv 3)) q_str q_str)))))) (ss_one (s_ret q_bl)) ss_nil)
    (ss_cons (s_asg (qv 1) (g_tup rfl (gs_cons (g_name (i := 4) nd rfl (Or.inr rfl)) (gs_cons (g_name (i := 5) nd rfl (Or.inl rfl)) (gs_cons (g_name (i := 6) nd rfl (Or.inl rfl)) gs_nil)))))
    (ss_cons (s_asg (qv 2) (g_tup rfl (gs_cons (g_name (i := 7) nd rfl (Or.inr rfl)) (gs_cons (g_name (i := 8) nd rfl (Or.inl rfl)) (gs_cons (g_name (i := 9) nd rfl (Or.inl rfl)) gs_nil)))))
    (ss_cons (s_if (q_val (qv 3)) (ss_cons (s_if (QW.t (w_or (t_not (q_val (q_call D__law_are_integers (hr.mono (by decide)) (by rfl) (qa_cons (q_ixT (qv 0) q_int) qa_nil)))) (w_or1 (t_ne (q_cb call_len_seq dc_lenT (by rfl) T.n_len (qa_cons (q_ixT (qv 0) q_int) qa_nil)) (q_cb call_len_seq dc_lenT (by rfl) T.n_len (qa_cons (qv 5) qa_nil)))))) (ss_one (s_ret q_bl)) ss_nil)
    (ss_cons (s_set (i := 10) nd rfl (Or.inl rfl) (q_cbl (cr_sum rfl) dc_sum (by rfl) T.n_sum (QN.s (n_lc (own := [("_law_item", 14), ("_law_at", 15)]) rfl nd (QI.c (i_zip (by rfl) T.n_zip (qa_cons (qv 5) (qa_cons (q_ixT (qv 0) q_int) qa_nil)))) (blkOk_by (N := N__law_is_meeting) (sc := defScope s__law_is_meeting) (by decide +kernel)) (fun _ _ _ _ _ => (g_tup rfl (gs_cons (g_name (i := 14) nd rfl (Or.inl rfl)) (gs_cons (g_name (i := 15) nd rfl (Or.inl rfl)) gs_nil)))) (fun _ _ _ _ _ => ts_nil) (fun _ _ _ _ _ => (q_mul (qv 14) (qv 15))) (by decide)))))
    (ss_cons (s_set (i := 11) nd rfl (Or.inl rfl) (q_cbl (cr_sum rfl) dc_sum (by rfl) T.n_sum (QN.s (n_lc (own := [("_law_item", 14), ("_law_at", 15)]) rfl nd (QI.c (i_zip (by rfl) T.n_zip (qa_cons (qv 8) (qa_cons (q_ixT (qv 0) q_int) qa_nil)))) (blkOk_by (N := N__law_is_meeting) (sc := defScope s__law_is_meeting) (by decide +kernel)) (fun _ _ _ _ _ => (g_tup rfl (gs_cons (g_name (i := 14) nd rfl (Or.inl rfl)) (gs_cons (g_name (i := 15) nd rfl (Or.inl rfl)) gs_nil)))) (fun _ _ _ _ _ => ts_nil) (fun _ _ _ _ _ => (q_mul (qv 14) (qv 15))) (by decide)))))
    (ss_one (s_ret (q_and (q_eq (q_mod (q_ct call_int1 dc_int (by rfl) T.n_int (qa_cons (q_sub (qv 10) (qv 6)) qa_nil)) (qv 4)) q_int) (q_one (q_eq (q_mod (q_ct call_int1 dc_int (by rfl) T.n_int (qa_cons (q_sub (qv 11) (qv 9)) qa_nil)) (qv 7)) q_int)))))))) ss_nil)
    (ss_cons (s_if (QW.t (w_or (t_not (q_val (q_isi (T' := "tuple") (by rfl) T.n_isinstance (by rfl) T.n_tuple (q_ixT (qv 0) q_int)))) (w_or1 (t_ne (q_cb call_len_seq dc_lenT (by rfl) T.n_len (qa_cons (q_ixT (qv 0) q_int) qa_nil)) q_int)))) (ss_one (s_ret q_bl)) ss_nil)
    (ss_cons (s_if (t_neD hr (QN.e (n_lc (own := [("_law_item", 14)]) rfl nd (QI.c (i_tup (q_ixT (qv 0) q_int))) (blkOk_by (N := N__law_is_meeting) (sc := defScope s__law_is_meeting) (by decide +kernel)) (fun _ _ _ _ _ => (g_name (i := 14) nd rfl (Or.inl rfl))) (fun _ _ _ _ _ => (ts_one (QW.t (w_or (t_not (q_val (q_call D__law_are_integers (hr.mono (by decide)) (by rfl) (qa_cons (qv 14) qa_nil)))) (w_or (t_ne (q_cb call_len_seq dc_lenT (by rfl) T.n_len (qa_cons (qv 14) qa_nil)) q_int) (w_or1 (t_eq (q_ixT (qv 14) q_int) q_int))))))) (fun _ _ _ _ _ => q_int) (by decide))) (QN.e (n_lst qa_nil))) (ss_one (s_ret q_bl)) ss_nil)
    (ss_cons (s_if (t_neD hr (QN.e (n_lc (own := [("_law_item", 14)]) rfl nd (QI.c (i_tup (q_ixT (qv 0) q_int))) (blkOk_by (N := N__law_is_meeting) (sc := defScope s__law_is_meeting) (by decide +kernel)) (fun _ _ _ _ _ => (g_name (i := 14) nd rfl (Or.inl rfl))) (fun _ _ _ _ _ => ts_nil) (fun _ _ _ _ _ => (q_ixT (qv 14) q_int)) (by decide))) (QN.e (n_lst (qa_cons q_int (qa_cons q_int qa_nil))))) (ss_one (s_ret q_bl)) ss_nil)
    (ss_cons (s_asg (q_tup (qa_cons (q_mul (q_ixT (q_ixT (q_ixT (qv 0) q_int) q_int) q_int) (qv 7)) (qa_cons (q_mul (q_ixT (q_ixT (q_ixT (qv 0) q_int) q_int) q_int) (qv 4)) qa_nil))) (g_tup rfl (gs_cons (g_name (i := 12) nd rfl (Or.inr rfl)) (gs_cons (g_name (i := 13) nd rfl (Or.inr rfl)) gs_nil))))
    (ss_cons (s_if (t_neD hr (QN.e (n_lc (own := [("_law_item", 14), ("_law_more", 16)]) rfl nd (QI.c (i_zip (by rfl) T.n_zip (qa_cons (qv 5) (qa_cons (qv 8) qa_nil)))) (blkOk_by (N := N__law_is_meeting) (sc := defScope s__law_is_meeting) (by decide +kernel)) (fun _ _ _ _ _ => (g_tup rfl (gs_cons (g_name (i := 14) nd rfl (Or.inl rfl)) (gs_cons (g_name (i := 16) nd rfl (Or.inl rfl)) gs_nil)))) (fun _ _ _ _ _ => (ts_one (t_ne (q_mod (q_ct call_int1 dc_int (by rfl) T.n_int (qa_cons (q_add (q_mul (qv 12) (qv 14)) (q_mul (qv 13) (qv 16))) qa_nil)) (q_mul (qv 4) (qv 7))) q_int))) (fun _ _ _ _ _ => q_int) (by decide))) (QN.e (n_lst qa_nil))) (ss_one (s_ret q_bl)) ss_nil)
    (ss_one (s_ret (q_ne (q_mod (q_ct call_int1 dc_int (by rfl) T.n_int (qa_cons (q_add (q_mul (qv 12) (qv 6)) (q_mul (qv 13) (qv 9))) qa_nil)) (q_mul (qv 4) (qv 7))) q_int)))))))))))), ?_⟩
    rcases hh with ⟨cell, rfl, hc, h1, h2, hz, hq⟩ | ⟨x, y, rfl, B, hq⟩
    · have hcl : cell.length ≤ 1000 := by omega
      refine seqG fun N hN => ⟨fun _ => hN _ ?_, fun h => absurd rfl h⟩
      clear hN N
      refine seqG fun N hN => (show N [.im (.tup [.str "meet", tI cell]), .im (sD m c r), .im (sD n b s), .im (.bl true), .im (.int m), .im (tI c), .im (.int r), .un, .un, .un, .un, .un, .un, .un, .un, .un, .un] from hN _ ?_)
      clear hN N
      refine seqG fun N hN => (show N [.im (.tup [.str "meet", tI cell]), .im (sD m c r), .im (sD n b s), .im (.bl true), .im (.int m), .im (tI c), .im (.int r), .im (.int n), .im (tI b), .im (.int s), .un, .un, .un, .un, .un, .un, .un] from hN _ ?_)
      clear hN N
      refine seqG fun N hN => ?_
      clear hN
      refine ifTrue (fun Q q => q) ?_
      refine seqG fun N2 hN2 => ⟨cell, rfl, hcl, ?_⟩
      show if (!decide (((iD cell).length : Int) = ((iD c).length : Int))) = true then _ else N2 _
      rw [List.length_map, List.length_map, hc, decide_eq_true rfl]
      refine hN2 _ ?_
      clear hN2 N2
      have e1 := zipI c cell
      have e2 := zipI b cell
      refine seqG fun N2 hN2 => ?_
      show few (List.zipWith (fun a b => D.tup [a, b]) (iD c) (iD cell)) ∧ _
      rw [e1]
      refine ⟨few_map (by rw [List.length_zip]; omega), lcMap zI (fun p => .int (p.1 * p.2)) (c.zip cell) [] (fun p hp R1 R2 h => ⟨mulOk (sc _ (List.of_mem_zip hp).1) (hz _ (List.of_mem_zip hp).2), h⟩) ⟨(c.zip cell).map fun p : Int × Int => p.1 * p.2, by simp, ?_⟩⟩
      refine hN2 _ ?_
      clear hN2 N2
      refine seqG fun N2 hN2 => ?_
      show few (List.zipWith (fun a b => D.tup [a, b]) (iD b) (iD cell)) ∧ _
      rw [e2]
      refine ⟨few_map (by rw [List.length_zip]; omega), lcMap zI (fun p => .int (p.1 * p.2)) (b.zip cell) [] (fun p hp R1 R2 h => ⟨mulOk (sb _ (List.of_mem_zip hp).1) (hz _ (List.of_mem_zip hp).2), h⟩) ⟨(b.zip cell).map fun p : Int × Int => p.1 * p.2, by simp, ?_⟩⟩
      refine hN2 _ ?_
      clear hN2 N2
      refine ⟨hm, ?_⟩
      have a1 : (NT.dt c cell - r) % m = 0 := NT.mod_eq_zero.mpr h1
      have a2 : (NT.dt b cell - s) % n = 0 := NT.mod_eq_zero.mpr h2
      show if decide ((NT.dt c cell - r) % m = 0) = true then (0 < n ∧ Q (.bl (decide ((NT.dt b cell - s) % n = 0)))) else Q (.bl false)
      rw [a1, a2, if_pos (decide_eq_true rfl), decide_eq_true rfl]
      exact ⟨hn, hq⟩
    · have hx := B.xm
      have hy := B.yn
      have sx : Sz 140 x := sz_lt sm hx.1 hx.2
      have sy : Sz 140 y := sz_lt sn hy.1 hy.2
      have nil : EqD (.lst []) (.lst []) true := EqD.of ⟨rfl, by decide⟩ ⟨rfl, by decide⟩ rfl
      have hmul : CMulW m n := mulOk sm sn
      have hpos : 0 < m * n := Int.mul_pos hm hn
      refine seqG fun N hN => ⟨fun _ => hN _ ?_, fun h => absurd rfl h⟩
      clear hN N
      refine seqG fun N hN => (show N [.im (.tup [.str "never", barD x y]), .im (sD m c r), .im (sD n b s), .im (.bl false), .im (.int m), .im (tI c), .im (.int r), .un, .un, .un, .un, .un, .un, .un, .un, .un, .un] from hN _ ?_)
      clear hN N
      refine seqG fun N hN => (show N [.im (.tup [.str "never", barD x y]), .im (sD m c r), .im (sD n b s), .im (.bl false), .im (.int m), .im (tI c), .im (.int r), .im (.int n), .im (tI b), .im (.int s), .un, .un, .un, .un, .un, .un, .un] from hN _ ?_)
      clear hN N
      refine seqG fun N hN => (show N _ from hN _ ?_)
      clear hN N
      refine seqG fun N hN => (show N _ from hN _ ?_)
      clear hN N
      refine seqG fun N hN => ⟨rfl, [0, x], rfl, by show 2 ≤ 1000; decide, ?_⟩
      show if decide (x = 0) = true then _ else _
      rw [if_neg (by simpa using B.x0)]
      refine ⟨[1, y], rfl, by show 2 ≤ 1000; decide, ?_⟩
      show if decide (y = 0) = true then _ else _
      rw [if_neg (by simpa using B.y0)]
      refine ⟨rfl, true, nil, hN _ ?_⟩
      clear hN N
      refine seqG fun N hN => ⟨rfl, rfl, true, EqD.of (x := .lst (iD [0, 1])) (y := .lst (iD [0, 1])) ⟨rfl, by decide⟩ ⟨rfl, by decide⟩ rfl, hN _ ?_⟩
      clear hN N
      refine seqG fun N hN => ⟨mulOk sx sn, mulOk sy sm, rfl, ?_⟩
      refine (show N [.im (.tup [.str "never", barD x y]), .im (sD m c r), .im (sD n b s), .im (.bl false), .im (.int m), .im (tI c), .im (.int r), .im (.int n), .im (tI b), .im (.int s), .un, .un, .im (.int (x * n)), .im (.int (y * m)), .un, .un, .un] from hN _ ?_)
      clear hN N
      have e1 := zipI c b
      have sxn := szmul sx sn
      have sym := szmul sy sm
      refine seqG fun N hN => ?_
      show few (List.zipWith (fun a b => D.tup [a, b]) (iD c) (iD b)) ∧ _
      rw [e1]
      refine ⟨few_map (by rw [List.length_zip]; omega), lcFilt zI (fun _ => false) (fun _ => .int 1) (c.zip b) [] (fun p hp R1 R2 h1 h2 => ?_) ?_⟩
      · clear hN
        obtain ⟨m1, m2⟩ := List.of_mem_zip hp
        obtain ⟨k, hk, ek⟩ := List.getElem_of_mem hp
        have hkc : k < c.length := by rw [List.length_zip] at hk; omega
        have hkb : k < b.length := by omega
        rw [List.getElem_zip] at ek
        have ep1 : p.1 = NT.at_ c k := by rw [← ek, NT.at_get hkc]
        have ep2 : p.2 = NT.at_ b k := by rw [← ek, NT.at_get hkb]
        refine ⟨mulOk (a := 300) (sz_up sxn (by decide)) (sc _ m1), mulOk (a := 300) (sz_up sym (by decide)) (sb _ m2), hmul, hpos, ?_⟩
        have hd := B.re k
        rw [← ep1, ← ep2] at hd
        show if (!decide ((x * n * p.1 + y * m * p.2) % (m * n) = 0)) = true then R1 (.int 1) else R2
        rw [NT.mod_eq_zero.mpr hd]
        exact h2 rfl
      · rw [List.filter_eq_nil_iff.mpr (fun _ _ => by simp)]
        refine ⟨rfl, true, nil, hN _ ?_⟩
        refine ⟨mulOk (a := 300) (sz_up sxn (by decide)) sr, mulOk (a := 300) (sz_up sym (by decide)) ss, hmul, hpos, ?_⟩
        have hne : ¬ (x * n * r + y * m * s) % (m * n) = 0 := fun z => B.ne (NT.mod_eq_zero.mp z)
        show Q (.bl (!decide ((x * n * r + y * m * s) % (m * n) = 0)))
        rw [decide_eq_false hne]; exact hq
end
end SP
/-! L4 -/
set_option Elab.async false
set_option linter.all false
set_option maxRecDepth 100000
set_option maxHeartbeats 4100000
namespace SP
open PySem PySem.Spec L2 PyProof.Rows DL
theorem menu_prime {x : Int} (h : x ∈ ([2, 3, 5, 2, 3, 7, 11, 13, 17, 19, 23, 29] : List Int)) : ∃ p : Nat, p ∈ NT.PL ∧ x = (p : Int) := by
  simp only [List.mem_cons, List.not_mem_nil, or_false] at h
  rcases h with h | h | h | h | h | h | h | h | h | h | h | h
  all_goals first
    | exact ⟨2, by decide, h⟩ | exact ⟨3, by decide, h⟩ | exact ⟨5, by decide, h⟩ | exact ⟨7, by decide, h⟩ | exact ⟨11, by decide, h⟩
    | exact ⟨13, by decide, h⟩ | exact ⟨17, by decide, h⟩ | exact ⟨19, by decide, h⟩ | exact ⟨23, by decide, h⟩ | exact ⟨29, by decide, h⟩
section
variable {base : Heap} {P : Program} {w : World} {K : PySem.W.Frag} {mg : Str → Option Value}
abbrev s__law_period : Stmt := top 71
abbrev N__law_period : List Str := ["_law_deck_here", "_law_limit", "_law_found", "_law_left", "_law_taken", "_law_turn", "_law_menu", "_law_some", "_law_p", "_law_more"]
theorem sc__law_period : FnScope N__law_period ["_law_deck_here", "_law_limit"] (defScope s__law_period) := ⟨rfl, rfl, rfl, by decide +kernel, rfl, by decide +kernel, by decide +kernel⟩

def wd__law_period : List D → (D → Prop) → Prop := fun ds Q => ∃ lim : Int, ds = [.dk, .int lim] ∧ 1 ≤ lim ∧ Sz 138 lim ∧ ∀ e : Nat → Nat, NT.pr e NT.PL ≤ lim → NT.rad e NT.PL ≤ 1000 → Q (.int (NT.pr e NT.PL))
theorem ok__law_period (T : Txt mg) (F : FAt K mg "_law_period" s__law_period) (D__law_draw : Def P w K mg base 1 "_law_draw" ["_law_deck_here", "_law_below"] (spD K wd__law_draw)) (D__law_pick : Def P w K mg base 2 "_law_pick" ["_law_deck_here", "_law_some"] (spD K wd__law_pick)) :
    Def P w K mg base 3 "_law_period" ["_law_deck_here", "_law_limit"] (spD K wd__law_period) := by
  refine def_of F (fun f fd G => fn_D G sc__law_period (fun ds Q h => ?_) (fun cdv A outer s H E hr ds Q h => ?_)) (fun _ _ _ _ _ _ us hl => match us, hl with | [_, _], _ => rfl)
  · obtain ⟨lim, rfl, _⟩ := h; rfl
  · obtain ⟨lim, rfl, hlim, slim, hq⟩ := h
    have nd := sc__law_period.nd
    refine ⟨_, _, (ss_cons (s_asgM3 q_int q_int (fun h1 h2 => pe_tup (pa_cons h1 (pa_cons h2 (pa_cons (pe_lst pa_nil) pa_nil)))) (pg_tup rfl (pgs_cons (pg_name (i := 2) nd rfl (Or.inr rfl)) (pgs_cons (pg_name (i := 3) nd rfl (Or.inr rfl)) (pgs_cons (pg_name (i := 4) nd rfl (Or.inr rfl)) pgs_nil)))))
    (ss_cons (s_for PassesOwn.never rfl (i_range (by rfl) T.n_range (qa_cons (q_call D__law_pick (hr.mono (by decide)) (by rfl) (qa_cons (qv 0) (qa_cons (QN.e (n_lst (qa_cons q_int (qa_cons q_int (qa_cons q_int (qa_cons q_int (qa_cons q_int (qa_cons q_int qa_nil)))))))) qa_nil))) qa_nil)) (g_name (i := 5) nd rfl (Or.inl rfl)) (ss_cons (s_set (i := 6) nd rfl (Or.inl rfl) (QN.e (n_lst (qa_cons q_int (qa_cons q_int (qa_cons q_int (qa_cons q_int (qa_cons q_int (qa_cons q_int (qa_cons q_int (qa_cons q_int (qa_cons q_int (qa_cons q_int (qa_cons q_int (qa_cons q_int qa_nil)))))))))))))))
    (ss_cons (s_setLc (i := 7) (own := [("_law_p", 8)]) rfl nd rfl rfl (sw_true rfl rfl rfl rfl) (ic_list (qvl 6)) (blkOk_by (N := N__law_period) (sc := defScope s__law_period) (by decide +kernel)) (fun _ _ _ _ _ => (g_name (i := 8) nd rfl (Or.inl rfl))) (fun _ _ _ _ _ => (ts_one (QW.t (w_and (t_le (qv 8) (qv 3)) (w_and (t_notIn (qv 8) (qvl 4)) (w_and1 (t_le (q_mul (qv 2) (qv 8)) (qv 1)))))))) (fun _ _ _ _ _ => (qv 8)) (by decide))
    (ss_one (s_if (t_neD hr (qv 7) (QN.e (n_lst qa_nil))) (ss_cons (s_set (i := 8) nd rfl (Or.inl rfl) (q_call D__law_pick (hr.mono (by decide)) (by rfl) (qa_cons (qv 0) (qa_cons (qv 7) qa_nil))))
    (ss_cons (s_app 4 (qv 4) (qv 8) (pe_bm PySem.F.plainAttrs_list PySem.F.slot_list_append PySem.F.type_list_append mt_append (pv 4) (pa_cons (qv 8).pe pa_nil)))
    (ss_cons (s_asg (q_tup (qa_cons (q_mul (qv 2) (qv 8)) (qa_cons (q_div (qv 3) (qv 8)) qa_nil))) (g_tup rfl (gs_cons (g_name (i := 2) nd rfl (Or.inr rfl)) (gs_cons (g_name (i := 3) nd rfl (Or.inr rfl)) gs_nil))))
    (ss_one (s_for PassesOwn.never rfl (i_range (by rfl) T.n_range (qa_cons (q_call D__law_pick (hr.mono (by decide)) (by rfl) (qa_cons (qv 0) (qa_cons (QN.e (n_lst (qa_cons q_int (qa_cons q_int (qa_cons q_int (qa_cons q_int (qa_cons q_int (qa_cons (q_call D__law_draw (hr.mono (by decide)) (by rfl) (qa_cons (qv 0) (qa_cons q_int qa_nil))) qa_nil)))))))) qa_nil))) qa_nil)) (g_name (i := 9) nd rfl (Or.inl rfl)) (ss_one (s_set (i := 2) nd rfl (Or.inr rfl) (q_ifExp (t_le (q_mul (qv 2) (qv 8)) (qv 1)) (q_mul (qv 2) (qv 8)) (qv 2))))))))) ss_nil)))))
    (ss_one (s_ret (qv 2))))), ?_⟩
    refine seqG fun N0 hN0 => ⟨by show 4 < 10; decide, hN0 _ ?_⟩
    clear hN0 N0
    refine seqG fun N0 hN0 => ?_
    refine ⟨rfl, _, rfl, by show 0 < 6; decide, by show 6 ≤ 1000; decide, fun d hd => ?_⟩
    obtain ⟨n, rfl, n0, n1⟩ : ∃ n : Int, d = .int n ∧ 0 ≤ n ∧ n ≤ 4 := by
      simp only [List.mem_cons, List.not_mem_nil, or_false] at hd
      rcases hd with h | h | h | h | h | h <;> (subst h; exact ⟨_, rfl, by omega, by omega⟩)
    refine ⟨(by omega), (by omega), ?_⟩
    refine forRange (fun i => .int (i : Nat)) n.toNat (fun i γ => ∃ (e : Nat → Nat) (left : Int) (tk : List Int) (x5 x6 x7 x8 x9 : Slot), γ = [.im .dk, .im (.int lim), .im (.int (NT.pr e NT.PL)), .im (.int left), .mu (iD tk), x5, x6, x7, x8, x9] ∧
      NT.pr e NT.PL ≤ lim ∧ 1 ≤ left ∧ left ≤ 1000 ∧ NT.rad e NT.PL * left ≤ 1000 ∧ (∀ p ∈ NT.PL, 0 < e p → (p : Int) ∈ tk) ∧ tk.length ≤ i) (fun γ h => ?_) (fun i γ hi h N hN => ?_) ⟨fun _ => 0, 1000, [], .un, .un, .un, .un, .un, by have e1 : NT.pr (fun _ => 0) NT.PL = 1 := (by decide); rw [e1]; rfl, by have e1 : NT.pr (fun _ => 0) NT.PL = 1 := (by decide); rw [e1]; exact hlim, by decide, by decide, by decide, fun p hp h => absurd h (Nat.lt_irrefl 0), Nat.zero_le _⟩
    · obtain ⟨e, left, tk, x5, x6, x7, x8, x9, rfl, i1, i2, i3, i4, i5, i6⟩ := h
      refine hN0 _ (hq e i1 ?_)
      have hr0 : 0 < NT.rad e NT.PL := NT.rad_pos e fun p hp => hp
      have := Int.mul_le_mul_of_nonneg_left (a := 1) (b := left) (c := NT.rad e NT.PL) i2 (by omega)
      omega
    · clear hN0
      obtain ⟨e, left, tk, x5, x6, x7, x8, x9, rfl, i1, i2, i3, i4, i5, i6⟩ := h
      have hpe : 0 < NT.pr e NT.PL := NT.pr_pos e fun p hp => hp
      have spe : Sz 138 (NT.pr e NT.PL) := sz_le slim (by omega)
      generalize hF : NT.pr e NT.PL = F at *
      refine seqG fun N1 hN1 => ⟨rfl, hN1 _ ?_⟩
      clear hN1 N1
      refine seqG fun N1 hN1 => ⟨rfl, ?_⟩
      refine lcFilt D.int (fun x => decide (x ≤ left) && (!decide (x ∈ tk) && decide (F * x ≤ lim))) D.int [2, 3, 5, 2, 3, 7, 11, 13, 17, 19, 23, 29] [] (fun x hx R1 R2 h1 h2 => ?_) ?_
      · clear hN1
        obtain ⟨p, hp, rfl⟩ := menu_prime hx
        have hp2 := NT.PL_two hp
        refine ifD (fun c1 => ?_) (fun c1 => ?_)
        · refine ⟨tk, rfl, ifND (fun c2 => ?_) (fun c2 => ?_)⟩
          · refine ⟨mulOk (b := 5) spe (szk (by omega) (by decide)), ifD (fun c3 => ?_) (fun c3 => ?_)⟩
            · exact h1 (by rw [decide_eq_true c1, decide_eq_false c2, decide_eq_true c3]; rfl)
            · exact h2 (by rw [decide_eq_true c1, decide_eq_false c2, decide_eq_false c3]; rfl)
          · exact h2 (by rw [decide_eq_true c1, decide_eq_true c2]; rfl)
        · exact h2 (by rw [decide_eq_false c1]; rfl)
      rw [List.nil_append]
      generalize hsm : ([2, 3, 5, 2, 3, 7, 11, 13, 17, 19, 23, 29] : List Int).filter (fun x => decide (x ≤ left) && (!decide (x ∈ tk) && decide (F * x ≤ lim))) = sm
      have hsl : sm.length ≤ 12 := by rw [← hsm]; exact List.length_filter_le ..
      refine hN1 _ ?_
      clear hN1 N1
      refine ⟨rfl, _, eqD_lst (xs := sm) (ys := []), ifND (fun hne => ?_) (fun he => ?_)⟩
      · have hs0 : 0 < sm.length := by
          cases sm with
          | nil => exact absurd rfl hne
          | cons _ _ => simp
        refine seqG fun N1 hN1 => ⟨_, rfl, by rw [List.length_map]; exact hs0, by rw [List.length_map]; omega, fun d hd => ?_⟩
        obtain ⟨x, hx, rfl⟩ := List.mem_map.mp hd
        rw [← hsm] at hx
        obtain ⟨hx1, hx2⟩ := List.mem_filter.mp hx
        obtain ⟨p, hp, rfl⟩ := menu_prime hx1
        have hp2 := NT.PL_two hp
        simp only [Bool.and_eq_true, decide_eq_true_eq, Bool.not_eq_true', decide_eq_false_iff_not] at hx2
        obtain ⟨c1, c2, c3⟩ := hx2
        have hep : e p = 0 := by
          rcases Nat.eq_zero_or_pos (e p) with z | z
          · exact z
          · exact absurd (i5 p hp z) c2
        refine hN1 _ ?_
        clear hN1 N1
        refine seqG fun N1 hN1 => ⟨few_map (by omega), hN1 _ ?_⟩
        clear hN1 N1
        refine seqG fun N1 hN1 => ⟨mulOk (b := 5) spe (szk (by omega) (by decide)), kdivOk (by omega) (by omega), rfl, hN1 _ ?_⟩
        clear hN1 N1
        have htk : iD tk ++ [D.int (p : Int)] = iD (tk ++ [(p : Int)]) := by simp [iD]
        have hlp1 : 1 ≤ left / (p : Int) := by
          have h1 := Int.mul_ediv_add_emod left (p : Int)
          have h2 := Int.emod_lt_of_pos left (by omega : (0 : Int) < p)
          rcases Int.lt_or_le (left / (p : Int)) 1 with z | z
          · have h3 : (p : Int) * (left / (p : Int)) ≤ (p : Int) * 0 := Int.mul_le_mul_of_nonneg_left (by omega) (by omega)
            omega
          · exact z
        have hlp2 : left / (p : Int) ≤ left := Int.ediv_le_self _ (by omega)
        have hr0 : 0 < NT.rad e NT.PL := NT.rad_pos e fun p hp => hp
        have s1 : Sz 2000 133 := sz_up (a := 8) (by decide) (by decide)
        refine ⟨133, rfl, by decide, s1, fun r r0 r1 => ⟨rfl, _, rfl, by show 0 < 6; decide, by show 6 ≤ 1000; decide, fun d2 hd2 => ?_⟩⟩
        obtain ⟨n2, rfl, n3, n4⟩ : ∃ n : Int, d2 = .int n ∧ 0 ≤ n ∧ n ≤ 133 := by
          simp only [List.mem_cons, List.not_mem_nil, or_false] at hd2
          rcases hd2 with h | h | h | h | h | h <;> (subst h; exact ⟨_, rfl, by omega, by omega⟩)
        refine ⟨(by omega), (by omega), ?_⟩
        refine forRange (fun i => .int (i : Nat)) n2.toNat (fun i2 γ => ∃ (e2 : Nat → Nat) (x9 : Slot), γ = [.im .dk, .im (.int lim), .im (.int (NT.pr e2 NT.PL)), .im (.int (left / (p : Int))), .mu (iD (tk ++ [(p : Int)])), .im (.int (i : Nat)), .im (.lst (iD [2, 3, 5, 2, 3, 7, 11, 13, 17, 19, 23, 29])), .im (.lst (iD sm)), .im (.int p), x9] ∧
          NT.pr e2 NT.PL ≤ lim ∧ NT.rad e2 NT.PL = NT.rad e NT.PL * (p : Int) ∧ (∀ q ∈ NT.PL, 0 < e2 q → 0 < e q ∨ q = p) ∧ 0 < e2 p) (fun γ h => ?_) (fun i2 γ hi2 h N2 hN2 => ?_) ⟨NT.put e p (e p + 1), x9, ?_, ?_, ?_, fun q hq hh => ?_, ?_⟩
        · obtain ⟨e2, x9, rfl, j1, j2, j3, j4⟩ := h
          refine hN _ ⟨e2, _, _, _, _, _, _, _, rfl, j1, hlp1, by omega, ?_, fun q hq hh => ?_, by simp; omega⟩
          · rw [j2, Int.mul_assoc]
            have h1 := Int.mul_ediv_add_emod left (p : Int)
            have h2 := Int.emod_nonneg left (by omega : (p : Int) ≠ 0)
            have h3 := Int.mul_le_mul_of_nonneg_left (a := (p : Int) * (left / (p : Int))) (b := left) (c := NT.rad e NT.PL) (by omega) (by omega)
            omega
          · rcases j3 q hq hh with z | z
            · exact List.mem_append_left _ (i5 q hq z)
            · subst z; exact List.mem_append_right _ (List.mem_singleton.mpr rfl)
        · obtain ⟨e2, x9, rfl, j1, j2, j3, j4⟩ := h
          have hp2e : 0 < NT.pr e2 NT.PL := NT.pr_pos e2 fun p hp => hp
          have hmul : CMulW (NT.pr e2 NT.PL) (p : Int) := mulOk (b := 5) (sz_le slim (by omega)) (szk (by omega) (by decide))
          refine ⟨hmul, ifD (fun ht => ?_) (fun ht => ?_)⟩
          · refine ⟨hmul, hN2 _ ⟨NT.put e2 p (e2 p + 1), .im (.int (i2 : Nat)), ?_, ?_, ?_, fun q hq hh => ?_, ?_⟩⟩
            · rw [NT.pr_up NT.PL_nodup hp]; rfl
            · rw [NT.pr_up NT.PL_nodup hp]; exact ht
            · rw [NT.rad_up1 j4]; exact j2
            · by_cases hqp : q = p
              · exact .inr hqp
              · rw [NT.put_ne hqp] at hh; exact j3 q hq hh
            · rw [NT.put_self]; omega
          · exact hN2 _ ⟨e2, _, rfl, j1, j2, j3, j4⟩
        · rw [NT.pr_up NT.PL_nodup hp, hF, ← htk]; rfl
        · rw [NT.pr_up NT.PL_nodup hp, hF]; exact c3
        · rw [NT.rad_up0 hep NT.PL_nodup hp]
        · by_cases hqp : q = p
          · exact .inr hqp
          · rw [NT.put_ne hqp] at hh; exact .inl hh
        · rw [NT.put_self]; omega
      · refine hN _ ⟨e, left, tk, _, _, _, _, _, by rw [hF]; rfl, by rw [hF]; exact i1, i2, i3, i4, i5, by omega⟩
end
end SP
/-! L5 -/
set_option Elab.async false
set_option linter.all false
set_option maxRecDepth 100000
set_option maxHeartbeats 4100000
namespace SP
open PySem PySem.Spec L2 PyProof.Rows DL
/-- a comprehension whose ints are not told, but by what they are -/
theorem lcAny {α : Type} {g : WG} {t : WT} {e : WE} {γ0 : Gm} (ι : α → D) (Pd : Int → Prop) {Q : List D → Prop} : ∀ (xs : List α) (as : List Int), (∀ x ∈ xs, ∀ (R1 : D → Prop) (R2 : Prop), (∀ v, Pd v → R1 (.int v)) → g (ι x) γ0 fun γ2 => t γ2 fun b => if b = true then e γ2 R1 else R2) →
    (∀ v ∈ as, Pd v) → (∀ bs : List Int, bs.length = as.length + xs.length → (∀ v ∈ bs, Pd v) → Q (iD bs)) → wLcGo g t e γ0 (iD as) (xs.map ι) Q
  | [], as, _, ha, hq => hq as (by simp) ha
  | x :: xs, as, h, ha, hq => by
    refine h x List.mem_cons_self (fun y => wLcGo g t e γ0 (iD as ++ [y]) (xs.map ι) Q) _ fun v hv => ?_
    have e1 : iD as ++ [D.int v] = iD (as ++ [v]) := by simp [iD]
    rw [e1]
    refine lcAny ι Pd xs (as ++ [v]) (fun z hz => h z (List.mem_cons_of_mem _ hz)) (fun z hz => ?_) fun bs hb => hq bs (by simp at hb ⊢; omega)
    rcases List.mem_append.mp hz with (hz | hz)
    · exact ha z hz
    · rcases List.mem_singleton.mp hz with rfl; exact hv
theorem enumI : ∀ (c : List Int), List.zipWith (fun (i : Nat) d => D.tup [D.int (i : Nat), d]) (List.range (iD c).length) (iD c) = ((List.range c.length).zip c).map fun p : Nat × Int => D.tup [.int (p.1 : Nat), .int p.2] := by
  intro c
  rw [show (iD c).length = c.length by rw [List.length_map]]
  generalize List.range c.length = ks
  induction c generalizing ks with
  | nil => simp
  | cons x c ih =>
    cases ks with
    | nil => simp
    | cons k ks =>
      simp only [iD, List.map_cons, List.zipWith_cons_cons, List.zip_cons_cons]
      rw [← ih ks]
theorem set_bd {c : List Int} {k : Nat} {u m : Int} (h : ∀ x ∈ c, 0 ≤ x ∧ x < m) (h0 : 0 ≤ u) (h1 : u < m) : ∀ x ∈ c.set k u, 0 ≤ x ∧ x < m := fun x hx => by
  rcases List.mem_or_eq_of_mem_set hx with z | z
  · exact h x z
  · rw [z]; exact ⟨h0, h1⟩
theorem iD_snoc (c : List Int) (r : Int) : iD (c ++ [r]) = iD c ++ [D.int r] := by simp [iD]
theorem iD_set (c : List Int) (k : Nat) (u : Int) : (iD c).set k (.int u) = iD (c.set k u) := by simp only [iD, List.map_set]
theorem szl {n : Nat} (h : n ≤ 10) : n ≤ sizeLine := Nat.le_of_lt (small1000 (by omega))
theorem at_set {c : List Int} {k : Nat} {u : Int} (h : k < c.length) : NT.at_ (c.set k u) k = u := by rw [NT.at_get (by rw [List.length_set]; exact h), List.getElem_set_self]
section
variable {base : Heap} {P : Program} {w : World} {K : PySem.W.Frag} {mg : Str → Option Value}
abbrev s__law_local : Stmt := top 74
abbrev N__law_local : List Str := ["_law_deck_here", "_law_p", "_law_q", "_law_w", "_law_d", "_law_low", "_law_lead", "_law_c", "_law_b", "_law_t", "_law_factor", "_law_other", "_law_r", "_law_meets", "_law_less", "_law_at", "_law_item"]
theorem sc__law_local : FnScope N__law_local ["_law_deck_here", "_law_p", "_law_q", "_law_w", "_law_d"] (defScope s__law_local) := ⟨rfl, rfl, rfl, by decide +kernel, rfl, by decide +kernel, by decide +kernel⟩

def wd__law_local : List D → (D → Prop) → Prop := fun ds Q => ∃ (p e f d : Nat), ds = [.dk, .int p, .int ((p : Int) ^ e), .int ((p : Int) ^ f), .int d] ∧ p ∈ NT.PL ∧ 1 ≤ d ∧ d ≤ 3 ∧ (0 < e ∨ 0 < f) ∧ Sz 140 ((p : Int) ^ e) ∧ Sz 140 ((p : Int) ^ f) ∧
  ∀ (c b : List Int) (r s κ : Int) (T : Nat) (met : Bool), c.length = d → b.length = d → NT.Loc p e f T c b r s κ met → (∀ x ∈ c, 0 ≤ x ∧ x < (p : Int) ^ e) → (∀ x ∈ b, 0 ≤ x ∧ x < (p : Int) ^ f) → (0 ≤ r ∧ r < (p : Int) ^ e) → (0 ≤ s ∧ s < (p : Int) ^ f) →
    Q (.tup [.lst (iD (c ++ [r])), .lst (iD (b ++ [s])), .int ((p : Int) ^ T), .bl met])
theorem ok__law_local (T : Txt mg) (F : FAt K mg "_law_local" s__law_local) (D__law_draw : Def P w K mg base 1 "_law_draw" ["_law_deck_here", "_law_below"] (spD K wd__law_draw)) (D__law_pick : Def P w K mg base 2 "_law_pick" ["_law_deck_here", "_law_some"] (spD K wd__law_pick))
    (D__law_wide : Def P w K mg base 2 "_law_wide" ["_law_deck_here", "_law_below"] (spD K wd__law_wide)) (D__law_unit : Def P w K mg base 3 "_law_unit" ["_law_deck_here", "_law_p", "_law_q"] (spD K wd__law_unit)) (D__law_power : Def P w K mg base 3 "_law_power" ["_law_deck_here", "_law_p", "_law_most"] (spD K wd__law_power)) :
    Def P w K mg base 4 "_law_local" ["_law_deck_here", "_law_p", "_law_q", "_law_w", "_law_d"] (spD K wd__law_local) := by
  refine def_of F (fun fa fd G => fn_D G sc__law_local (fun ds Q h => ?_) (fun cdv A outer s0 H E hr ds Q h => ?_)) (fun _ _ _ _ _ _ us hl => match us, hl with | [_, _, _, _, _], _ => rfl)
  · obtain ⟨p, e, f, d, rfl, _⟩ := h; rfl
  · obtain ⟨p, e, f, d, rfl, hp, d1, d3, hef, sq, sw, hq⟩ := h
    have nd := sc__law_local.nd
    refine ⟨_, _, (ss_cons (s_asg (q_tup (qa_cons (q_cb (call_min2 rfl) dc_2 (by rfl) T.n_min (qa_cons (qv 2) (qa_cons (qv 3) qa_nil))) (qa_cons (q_call D__law_draw (hr.mono (by decide)) (by rfl) (qa_cons (qv 0) (qa_cons (qv 4) qa_nil))) qa_nil))) (g_tup rfl (gs_cons (g_name (i := 5) nd rfl (Or.inr rfl)) (gs_cons (g_name (i := 6) nd rfl (Or.inr rfl)) gs_nil))))
    (ss_cons (s_asgM2 (n_lc (own := [("_law_at", 15)]) rfl nd (QI.c (i_range (by rfl) T.n_range (qa_cons (qv 4) qa_nil))) (blkOk_by (N := N__law_local) (sc := defScope s__law_local) (by decide +kernel)) (fun _ _ _ _ _ => (g_name (i := 15) nd rfl (Or.inl rfl))) (fun _ _ _ _ _ => ts_nil) (fun _ _ _ _ _ => (q_call D__law_wide (hr.mono (by decide)) (by rfl) (qa_cons (qv 0) (qa_cons (qv 2) qa_nil)))) (by decide)) (n_lc (own := [("_law_at", 15)]) rfl nd (QI.c (i_range (by rfl) T.n_range (qa_cons (qv 4) qa_nil))) (blkOk_by (N := N__law_local) (sc := defScope s__law_local) (by decide +kernel)) (fun _ _ _ _ _ => (g_name (i := 15) nd rfl (Or.inl rfl))) (fun _ _ _ _ _ => ts_nil) (fun _ _ _ _ _ => (q_call D__law_wide (hr.mono (by decide)) (by rfl) (qa_cons (qv 0) (qa_cons (qv 3) qa_nil)))) (by decide)) (fun h1 h2 => pe_tup (pa_cons h1 (pa_cons h2 pa_nil))) (pg_tup rfl (pgs_cons (pg_name (i := 7) nd rfl (Or.inl rfl)) (pgs_cons (pg_name (i := 8) nd rfl (Or.inr rfl)) pgs_nil))))
    (ss_cons (s_if (t_eq (qv 5) q_int) (ss_cons (s_if (t_gt (qv 2) q_int) (ss_one (s_setIx 7 (qv 7) (qv 6) (q_call D__law_unit (hr.mono (by decide)) (by rfl) (qa_cons (qv 0) (qa_cons (qv 1) (qa_cons (qv 2) qa_nil)))))) (ss_one (s_setIx 8 (qv 8) (qv 6) (q_call D__law_unit (hr.mono (by decide)) (by rfl) (qa_cons (qv 0) (qa_cons (qv 1) (qa_cons (qv 3) qa_nil)))))))
    (ss_one (s_ret (q_tup (qa_cons (QN.e (n_cat (qvl 7) (QN.s (n_lst (qa_cons (q_call D__law_wide (hr.mono (by decide)) (by rfl) (qa_cons (qv 0) (qa_cons (qv 2) qa_nil))) qa_nil))))) (qa_cons (QN.e (n_cat (qvl 8) (QN.s (n_lst (qa_cons (q_call D__law_wide (hr.mono (by decide)) (by rfl) (qa_cons (qv 0) (qa_cons (qv 3) qa_nil))) qa_nil))))) (qa_cons q_int (qa_cons q_bl qa_nil)))))))) ss_nil)
    (ss_cons (s_setIx 7 (qv 7) (qv 6) (q_call D__law_unit (hr.mono (by decide)) (by rfl) (qa_cons (qv 0) (qa_cons (qv 1) (qa_cons (qv 2) qa_nil)))))
    (ss_cons (s_set (i := 9) nd rfl (Or.inr rfl) (q_ifExp (QW.t (w_or (t_eq (qv 4) q_int) (w_or1 (t_eq (q_call D__law_draw (hr.mono (by decide)) (by rfl) (qa_cons (qv 0) (qa_cons q_int qa_nil))) q_int)))) (qv 5) (q_call D__law_power (hr.mono (by decide)) (by rfl) (qa_cons (qv 0) (qa_cons (qv 1) (qa_cons (qv 5) qa_nil))))))
    (ss_cons (s_set (i := 10) nd rfl (Or.inr rfl) (q_ifExp (t_gt (qv 9) q_int) (q_call D__law_unit (hr.mono (by decide)) (by rfl) (qa_cons (qv 0) (qa_cons (qv 1) (qa_cons (qv 5) qa_nil)))) (q_call D__law_wide (hr.mono (by decide)) (by rfl) (qa_cons (qv 0) (qa_cons (qv 5) qa_nil)))))
    (ss_cons (s_if (t_lt (qv 9) (qv 5)) (ss_cons (s_set (i := 11) nd rfl (Or.inl rfl) (q_call D__law_pick (hr.mono (by decide)) (by rfl) (qa_cons (qv 0) (qa_cons (QN.e (n_lc (own := [("_law_at", 15)]) rfl nd (QI.c (i_range (by rfl) T.n_range (qa_cons (qv 4) qa_nil))) (blkOk_by (N := N__law_local) (sc := defScope s__law_local) (by decide +kernel)) (fun _ _ _ _ _ => (g_name (i := 15) nd rfl (Or.inl rfl))) (fun _ _ _ _ _ => (ts_one (t_ne (qv 15) (qv 6)))) (fun _ _ _ _ _ => (qv 15)) (by decide))) qa_nil))))
    (ss_one (s_setIx 8 (qv 8) (qv 11) (q_call D__law_unit (hr.mono (by decide)) (by rfl) (qa_cons (qv 0) (qa_cons (qv 1) (qa_cons (qv 3) qa_nil))))))) ss_nil)
    (ss_cons (s_setM (i := 8) nd rfl (Or.inr rfl) (n_lc (own := [("_law_at", 15), ("_law_item", 16)]) rfl nd (ic_enum (by rfl) T.n_enumerate (qvl 7)) (blkOk_by (N := N__law_local) (sc := defScope s__law_local) (by decide +kernel)) (fun _ _ _ _ _ => (g_tup rfl (gs_cons (g_name (i := 15) nd rfl (Or.inl rfl)) (gs_cons (g_name (i := 16) nd rfl (Or.inl rfl)) gs_nil)))) (fun _ _ _ _ _ => ts_nil) (fun _ _ _ _ _ => (q_mod (q_ct call_int1 dc_int (by rfl) T.n_int (qa_cons (q_add (q_mul (qv 10) (qv 16)) (q_mul (q_ifExp (t_eq (qv 15) (qv 6)) (qv 5) (qv 9)) (q_ixL (qvl 8) (qv 15)))) qa_nil)) (qv 3))) (by decide)))
    (ss_cons (s_par (i := 12) (j := 13) rfl nd rfl rfl (by decide) rfl rfl (qa_cons (q_call D__law_wide (hr.mono (by decide)) (by rfl) (qa_cons (qv 0) (qa_cons (qv 2) qa_nil))) (qa_cons (q_or (q_eq (qv 9) q_int) (q_one (q_gt (q_call D__law_draw (hr.mono (by decide)) (by rfl) (qa_cons (qv 0) (qa_cons q_int qa_nil))) q_int))) qa_nil)) rfl)
    (ss_cons (s_if (q_val (qv 13)) (ss_one (s_ret (q_tup (qa_cons (QN.e (n_cat (qvl 7) (QN.s (n_lst (qa_cons (qv 12) qa_nil))))) (qa_cons (QN.e (n_cat (qvl 8) (QN.s (n_lst (qa_cons (q_mod (q_ct call_int1 dc_int (by rfl) T.n_int (qa_cons (q_add (q_mul (qv 10) (qv 12)) (q_mul (qv 9) (q_call D__law_wide (hr.mono (by decide)) (by rfl) (qa_cons (qv 0) (qa_cons (qv 3) qa_nil))))) qa_nil)) (qv 3)) qa_nil))))) (qa_cons (qv 9) (qa_cons q_bl qa_nil))))))) ss_nil)
    (ss_cons (s_set (i := 14) nd rfl (Or.inl rfl) (q_call D__law_power (hr.mono (by decide)) (by rfl) (qa_cons (qv 0) (qa_cons (qv 1) (qa_cons (q_div (qv 9) (qv 1)) qa_nil)))))
    (ss_one (s_ret (q_tup (qa_cons (QN.e (n_cat (qvl 7) (QN.s (n_lst (qa_cons (qv 12) qa_nil))))) (qa_cons (QN.e (n_cat (qvl 8) (QN.s (n_lst (qa_cons (q_mod (q_ct call_int1 dc_int (by rfl) T.n_int (qa_cons (q_add (q_mul (qv 10) (qv 12)) (q_mul (qv 14) (q_call D__law_unit (hr.mono (by decide)) (by rfl) (qa_cons (qv 0) (qa_cons (qv 1) (qa_cons (qv 3) qa_nil)))))) qa_nil)) (qv 3)) qa_nil))))) (qa_cons (qv 9) (qa_cons q_bl qa_nil)))))))))))))))))), ?_⟩
    have hp2 := NT.PL_two hp
    have q0 := NT.pow_pos (p := p) (by omega) e
    have w0 := NT.pow_pos (p := p) (by omega) f
    have hmin : (if (p : Int) ^ f < (p : Int) ^ e then (p : Int) ^ f else (p : Int) ^ e) = (p : Int) ^ min e f := by
      rw [← NT.pow_min hp2.1]
      split <;> omega
    generalize hlo : min e f = lo at hmin
    have hle : lo ≤ e := by omega
    have hlf : lo ≤ f := by omega
    have l0 := NT.pow_pos (p := p) (by omega) lo
    have lq : (p : Int) ^ lo ≤ (p : Int) ^ e := Int.le_of_dvd q0 (NT.pow_dvd hle)
    have slo : Sz 140 ((p : Int) ^ lo) := sz_le sq (by omega)
    have hr1 : ((d : Nat) : Int) < 2 ^ 62 ∧ -(2 ^ 62) ≤ ((d : Nat) : Int) := by omega
    have sd : Sz 2000 ((d : Nat) : Int) := sz_le (sz_up (a := 8) (by decide : Sz 8 (100 : Int)) (by decide)) (by omega)
    have htn : ((d : Nat) : Int).toNat = d := by omega
    refine seqG fun N hN => ⟨d, rfl, by omega, sd, fun lead g0 g1 => ?_⟩
    obtain ⟨k, rfl⟩ : ∃ k : Nat, lead = (k : Nat) := ⟨lead.toNat, by omega⟩
    have hkd : k < d := by omega
    refine ⟨rfl, (show N [.im .dk, .im (.int p), .im (.int ((p : Int) ^ e)), .im (.int ((p : Int) ^ f)), .im (.int d), .im (.int (if (p : Int) ^ f < (p : Int) ^ e then (p : Int) ^ f else (p : Int) ^ e)), .im (.int (k : Nat)), .un, .un, .un, .un, .un, .un, .un, .un, .un, .un] from ?_)⟩
    rw [hmin]
    refine hN _ ?_
    clear hN N
    refine seqG fun N hN => ⟨hr1.1, hr1.2, few_map (by rw [List.length_range]; omega), ?_⟩
    rw [htn]
    refine lcAny (fun i : Nat => .int (i : Nat)) (fun v => 0 ≤ v ∧ v < (p : Int) ^ e) (List.range d) [] (fun x _ R1 R2 h1 => ⟨_, rfl, q0, sz_up sq (by decide), fun v v0 v1 => h1 v ⟨v0, v1⟩⟩) (fun v hv => by cases hv) fun c hcl hc => ?_
    refine ⟨hr1.1, hr1.2, few_map (by rw [List.length_range]; omega), ?_⟩
    rw [htn]
    refine lcAny (fun i : Nat => .int (i : Nat)) (fun v => 0 ≤ v ∧ v < (p : Int) ^ f) (List.range d) [] (fun x _ R1 R2 h1 => ⟨_, rfl, w0, sz_up sw (by decide), fun v v0 v1 => h1 v ⟨v0, v1⟩⟩) (fun v hv => by cases hv) fun b hbl hb => ?_
    rw [List.length_range] at hcl hbl
    have hcl : c.length = d := by simpa using hcl
    have hbl : b.length = d := by simpa using hbl
    refine ⟨⟨by show 7 < 17; decide, by show 8 < 17; decide⟩, hN _ ?_⟩
    clear hN N
    refine seqG fun N hN => ifD (fun hlow => ?_) (fun hlow => ?_)
    · clear hN
      have hl0 : lo = 0 := by
        rcases Nat.eq_zero_or_pos lo with z | z
        · exact z
        · have := Int.le_of_dvd l0 (NT.dvd_pow1 (p := p) z)
          omega
      have hef0 : e = 0 ∨ f = 0 := by omega
      refine seqG fun N hN => ifD (fun h1q => ?_) (fun h1q => ?_)
      · have he : 0 < e := by
          rcases Nat.eq_zero_or_pos e with z | z
          · rw [z, Int.pow_zero] at h1q; omega
          · exact z
        refine ⟨p, e, rfl, hp, he, sq, fun u u0 u1 u2 => ⟨⟨by omega, by rw [List.length_map]; omega⟩, ?_⟩⟩
        rw [show ((k : Nat) : Int).toNat = k by omega, iD_set]
        refine hN _ ?_
        clear hN N
        refine ⟨_, rfl, q0, sz_up sq (by decide), fun r r0 r1 => ⟨rfl, szl (by simp; omega), _, rfl, w0, sz_up sw (by decide), fun s s0 s1 => ⟨rfl, szl (by simp; omega), rfl, ?_⟩⟩⟩
        have hL : NT.Loc p e f 0 (c.set k u) b r s 0 true := NT.loc_low hef0 (fun _ => ⟨k, by rw [at_set (by omega)]; exact u2⟩) (fun hf => by omega)
        have hQ := hq (c.set k u) b r s 0 0 true (by rw [List.length_set]; exact hcl) hbl hL (set_bd hc (by omega) u1) hb ⟨r0, r1⟩ ⟨s0, s1⟩
        rw [Int.pow_zero, iD_snoc, iD_snoc] at hQ
        exact hQ
      · have he : e = 0 := by
          rcases Nat.eq_zero_or_pos e with z | z
          · exact z
          · have := Int.le_of_dvd q0 (NT.dvd_pow1 (p := p) z)
            omega
        have hf : 0 < f := by omega
        refine ⟨p, f, rfl, hp, hf, sw, fun u u0 u1 u2 => ⟨⟨by omega, by rw [List.length_map]; omega⟩, ?_⟩⟩
        rw [show ((k : Nat) : Int).toNat = k by omega, iD_set]
        refine hN _ ?_
        clear hN N
        refine ⟨_, rfl, q0, sz_up sq (by decide), fun r r0 r1 => ⟨rfl, szl (by simp; omega), _, rfl, w0, sz_up sw (by decide), fun s s0 s1 => ⟨rfl, szl (by simp; omega), rfl, ?_⟩⟩⟩
        have hL : NT.Loc p e f 0 c (b.set k u) r s 0 true := NT.loc_low hef0 (fun h => by omega) (fun _ => ⟨k, by rw [at_set (by omega)]; exact u2⟩)
        have hQ := hq c (b.set k u) r s 0 0 true hcl (by rw [List.length_set]; exact hbl) hL hc (set_bd hb (by omega) u1) ⟨r0, r1⟩ ⟨s0, s1⟩
        rw [Int.pow_zero, iD_snoc, iD_snoc] at hQ
        exact hQ
    · refine hN _ ?_
      clear hN N
      have hl0 : 0 < lo := by
        rcases Nat.eq_zero_or_pos lo with z | z
        · exact absurd (by rw [z, Int.pow_zero]) hlow
        · exact z
      have he : 0 < e := by omega
      have hf : 0 < f := by omega
      refine seqG fun N hN => ⟨p, e, rfl, hp, he, sq, fun u u0 u1 u2 => ⟨⟨by omega, by rw [List.length_map]; omega⟩, ?_⟩⟩
      rw [show ((k : Nat) : Int).toNat = k by omega, iD_set]
      refine (show N [.im .dk, .im (.int p), .im (.int ((p : Int) ^ e)), .im (.int ((p : Int) ^ f)), .im (.int d), .im (.int ((p : Int) ^ lo)), .im (.int (k : Nat)), .mu (iD (c.set k u)), .mu (iD b), .un, .un, .un, .un, .un, .un, .un, .un] from hN _ ?_)
      clear hN N
      have hcl2 : (c.set k u).length = d := by rw [List.length_set]; exact hcl
      have hc2 := set_bd (k := k) hc (by omega) u1
      have hck : ¬ (p : Int) ∣ NT.at_ (c.set k u) k := by rw [at_set (by omega)]; exact u2
      generalize c.set k u = c2 at hcl2 hc2 hck
      refine seqG fun N hN => ?_
      have key : ∀ T : Nat, T ≤ lo → (d = 1 → T = lo) → N [.im .dk, .im (.int p), .im (.int ((p : Int) ^ e)), .im (.int ((p : Int) ^ f)), .im (.int d), .im (.int ((p : Int) ^ lo)), .im (.int (k : Nat)), .mu (iD c2), .mu (iD b), .im (.int ((p : Int) ^ T)), .un, .un, .un, .un, .un, .un, .un] := by
        intro T hT hd1
        refine hN _ ?_
        clear hN N
        have t0 := NT.pow_pos (p := p) (by omega) T
        have tl : (p : Int) ^ T ≤ (p : Int) ^ lo := Int.le_of_dvd l0 (NT.pow_dvd hT)
        have sT : Sz 140 ((p : Int) ^ T) := sz_le slo (by omega)
        have one_lt : 1 < (p : Int) ^ T ↔ 0 < T := by
          constructor
          · intro h
            rcases Nat.eq_zero_or_pos T with z | z
            · rw [z, Int.pow_zero] at h; omega
            · exact z
          · intro h
            have := Int.le_of_dvd t0 (NT.dvd_pow1 (p := p) h)
            omega
        refine seqG fun N hN => ?_
        have key2 : ∀ Fa : Int, 0 ≤ Fa → Fa < (p : Int) ^ lo → (0 < T → ¬ (p : Int) ∣ Fa) → N [.im .dk, .im (.int p), .im (.int ((p : Int) ^ e)), .im (.int ((p : Int) ^ f)), .im (.int d), .im (.int ((p : Int) ^ lo)), .im (.int (k : Nat)), .mu (iD c2), .mu (iD b), .im (.int ((p : Int) ^ T)), .im (.int Fa), .un, .un, .un, .un, .un, .un] := by
          intro Fa F0 F1 F2
          refine hN _ ?_
          clear hN N
          refine seqG fun N hN => ?_
          have key3 : ∀ (b2 : List Int) (x11 : Slot), b2.length = d → (∀ x ∈ b2, 0 ≤ x ∧ x < (p : Int) ^ f) → (T < lo → ∃ o, o ≠ k ∧ ¬ (p : Int) ∣ NT.at_ b2 o) → N [.im .dk, .im (.int p), .im (.int ((p : Int) ^ e)), .im (.int ((p : Int) ^ f)), .im (.int d), .im (.int ((p : Int) ^ lo)), .im (.int (k : Nat)), .mu (iD c2), .mu (iD b2), .im (.int ((p : Int) ^ T)), .im (.int Fa), x11, .un, .un, .un, .un, .un] := by
            intro b2 x11 hb2l hb2 hun
            refine hN _ ?_
            clear hN N
            refine seqG fun N hN => ?_
            show few (List.zipWith (fun (i : Nat) d => D.tup [D.int (i : Nat), d]) (List.range (iD c2).length) (iD c2)) ∧ _
            rw [enumI]
            have sF : Sz 140 Fa := sz_lt slo F0 F1
            refine ⟨few_map (by rw [List.length_zip]; omega), lcMap (fun p : Nat × Int => D.tup [.int (p.1 : Nat), .int p.2]) (fun z => .int ((Fa * z.2 + (if z.1 = k then (p : Int) ^ lo else (p : Int) ^ T) * NT.at_ b2 z.1) % (p : Int) ^ f)) ((List.range c2.length).zip c2) [] (fun z hz R1 R2 h1 => ?_) ?_⟩
            · clear hN
              obtain ⟨m1, m2⟩ := List.of_mem_zip hz
              have hz1 : z.1 < b2.length := by have := List.mem_range.mp m1; omega
              have g3 : (iD b2)[z.1]? = some (D.int (NT.at_ b2 z.1)) := by rw [List.getElem?_map, List.getElem?_eq_getElem hz1, NT.at_get hz1]; rfl
              have hb3 := hb2 _ (NT.at_memlt hz1)
              have hc3 := hc2 _ m2
              refine ⟨mulOk sF (sz_lt sq hc3.1 hc3.2), ifD (fun hk => ?_) (fun hk => ?_)⟩
              · rw [if_pos (by omega)] at h1
                exact atD_ok g3 ⟨mulOk slo (sz_lt sw hb3.1 hb3.2), w0, h1⟩
              · rw [if_neg (by omega)] at h1
                exact atD_ok g3 ⟨mulOk sT (sz_lt sw hb3.1 hb3.2), w0, h1⟩
            have e2 : ([] ++ ((List.range c2.length).zip c2).map fun z => D.int ((Fa * z.2 + (if z.1 = k then (p : Int) ^ lo else (p : Int) ^ T) * NT.at_ b2 z.1) % (p : Int) ^ f)) = iD (((List.range c2.length).zip c2).map fun z => (Fa * z.2 + (if z.1 = k then (p : Int) ^ lo else (p : Int) ^ T) * NT.at_ b2 z.1) % (p : Int) ^ f) := by
              rw [List.nil_append]; simp only [iD, List.map_map]; rfl
            rw [e2]
            generalize hbb : (((List.range c2.length).zip c2).map fun z => (Fa * z.2 + (if z.1 = k then (p : Int) ^ lo else (p : Int) ^ T) * NT.at_ b2 z.1) % (p : Int) ^ f) = bb
            have bbl : bb.length = d := by rw [← hbb, List.length_map, List.length_zip, List.length_range]; omega
            have bbb : ∀ x ∈ bb, 0 ≤ x ∧ x < (p : Int) ^ f := fun x hx => by
              rw [← hbb] at hx
              obtain ⟨z, _, rfl⟩ := List.mem_map.mp hx
              exact ⟨Int.emod_nonneg _ (by omega), Int.emod_lt_of_pos _ w0⟩
            have mix : NT.Mix p e f lo T k c2 b2 bb Fa := ⟨hlo.symm, hl0, hT, fun i => ?_, hck, hun, F2⟩
            · refine ⟨by show 8 < 17; decide, ?_⟩
              refine (show N [.im .dk, .im (.int p), .im (.int ((p : Int) ^ e)), .im (.int ((p : Int) ^ f)), .im (.int d), .im (.int ((p : Int) ^ lo)), .im (.int (k : Nat)), .mu (iD c2), .mu (iD bb), .im (.int ((p : Int) ^ T)), .im (.int Fa), x11, .un, .un, .un, .un, .un] from hN _ ?_)
              clear hN N
              refine seqG fun N hN => ⟨_, rfl, q0, sz_up sq (by decide), fun r r0 r1 => ?_⟩
              have key9 : ∀ met : Bool, (met = false → 0 < T) → N [.im .dk, .im (.int p), .im (.int ((p : Int) ^ e)), .im (.int ((p : Int) ^ f)), .im (.int d), .im (.int ((p : Int) ^ lo)), .im (.int (k : Nat)), .mu (iD c2), .mu (iD bb), .im (.int ((p : Int) ^ T)), .im (.int Fa), x11, .im (.int r), .im (.bl met), .un, .un, .un] := by
                intro met hmet
                refine hN _ ?_
                clear hN N
                have sr : Sz 140 r := sz_lt sq r0 r1
                cases met with
                | true =>
                  refine seqG fun N hN => ?_
                  clear hN
                  refine ⟨rfl, szl (by simp; omega), mulOk sF sr, _, rfl, w0, sz_up sw (by decide), fun z z0 z1 => ⟨mulOk sT (sz_lt sw z0 z1), w0, rfl, szl (by simp; omega), rfl, ?_⟩⟩
                  have hQ := hq c2 bb r ((Fa * r + (p : Int) ^ T * z) % (p : Int) ^ f) Fa T true hcl2 bbl (mix.met hp (k := z) (NT.mod_dvd' _ _)) hc2 bbb ⟨r0, r1⟩ ⟨Int.emod_nonneg _ (by omega), Int.emod_lt_of_pos _ w0⟩
                  rw [iD_snoc, iD_snoc] at hQ
                  exact hQ
                | false =>
                  have hT0 := hmet rfl
                  refine seqG fun N hN => hN _ ?_
                  clear hN N
                  have eT : (p : Int) ^ T / (p : Int) = (p : Int) ^ (T - 1) := by
                    obtain ⟨j, rfl⟩ : ∃ j, T = j + 1 := ⟨T - 1, by omega⟩
                    rw [Int.pow_succ]
                    exact Int.mul_ediv_cancel _ (by omega)
                  have tl1 : (p : Int) ^ (T - 1) ≤ (p : Int) ^ T := Int.le_of_dvd t0 (NT.pow_dvd (by omega))
                  have t1 := NT.pow_pos (p := p) (by omega) (T - 1)
                  refine seqG fun N hN => ⟨kdivOk (by omega) (by omega), p, T - 1, (by show [D.dk, D.int p, D.int ((p : Int) ^ T / (p : Int))] = _; rw [eT]), hp, sz_le sT (by omega), fun l hl => hN _ ?_⟩
                  clear hN N
                  have l1 := NT.pow_pos (p := p) (by omega) l
                  have l2 : (p : Int) ^ l ≤ (p : Int) ^ (T - 1) := Int.le_of_dvd t1 (NT.pow_dvd hl)
                  refine ⟨rfl, szl (by simp; omega), mulOk sF sr, p, f, rfl, hp, hf, sw, fun z z0 z1 z2 => ⟨mulOk (sz_le sT (by omega)) (sz_lt sw (by omega) z1), w0, rfl, szl (by simp; omega), rfl, ?_⟩⟩
                  have hQ := hq c2 bb r ((Fa * r + (p : Int) ^ l * z) % (p : Int) ^ f) Fa T false hcl2 bbl (mix.not hp (l := l) (u := z) (by omega) z2 (NT.mod_dvd' _ _)) hc2 bbb ⟨r0, r1⟩ ⟨Int.emod_nonneg _ (by omega), Int.emod_lt_of_pos _ w0⟩
                  rw [iD_snoc, iD_snoc] at hQ
                  exact hQ
              refine ifD (fun h1 => ?_) (fun h1 => ?_)
              · exact key9 true fun h => absurd h (by decide)
              · refine ⟨4, rfl, by decide, sz_up (a := 4) (by decide) (by decide), fun z z0 z1 => ?_⟩
                exact key9 (decide (0 < z)) fun _ => by
                  rcases Nat.eq_zero_or_pos T with y | y
                  · exact absurd (by rw [y, Int.pow_zero]) h1
                  · exact y
            · by_cases hi : i < d
              · have e3 : NT.at_ bb i = (Fa * NT.at_ c2 i + (if i = k then (p : Int) ^ lo else (p : Int) ^ T) * NT.at_ b2 i) % (p : Int) ^ f := by
                  have h5 : i < c2.length := by omega
                  rw [← hbb, NT.at_get (by rw [List.length_map, List.length_zip, List.length_range]; omega), List.getElem_map, List.getElem_zip, List.getElem_range, NT.at_get h5]
                rw [e3]; exact NT.mod_dvd' _ _
              · rw [NT.at_ge (by omega), NT.at_ge (c := c2) (by omega), NT.at_ge (c := b2) (by omega)]
                exact ⟨0, by grind⟩
          refine ifD (fun hlt => ?_) (fun hlt => ?_)
          · have hTl : T < lo := by
              rcases Nat.lt_or_ge T lo with z | z
              · exact z
              · have : T = lo := by omega
                rw [this] at hlt; omega
            have hd2 : d ≠ 1 := fun z => by have := hd1 z; omega
            clear hN
            refine seqG fun N2 hN2 => ⟨hr1.1, hr1.2, few_map (by rw [List.length_range]; omega), ?_⟩
            rw [htn]
            refine lcFilt (fun i : Nat => .int (i : Nat)) (fun i => !decide (((i : Nat) : Int) = ((k : Nat) : Int))) (fun i : Nat => .int (i : Nat)) (List.range d) [] (fun x hx R1 R2 h1 h2 => ?_) ?_
            · show if (!decide (((x : Nat) : Int) = ((k : Nat) : Int))) = true then R1 (.int (x : Nat)) else R2
              cases hbx : (!decide (((x : Nat) : Int) = ((k : Nat) : Int))) with
              | true => exact h1 hbx
              | false => exact h2 hbx
            rw [List.nil_append]
            have hne : ∃ o, o < d ∧ o ≠ k := by
              rcases Nat.eq_zero_or_pos k with z | z
              · exact ⟨1, by omega, by omega⟩
              · exact ⟨0, by omega, by omega⟩
            obtain ⟨o1, ho1, ho2⟩ := hne
            have hmem : o1 ∈ (List.range d).filter fun i => !decide (((i : Nat) : Int) = ((k : Nat) : Int)) := List.mem_filter.mpr ⟨List.mem_range.mpr ho1, by rw [decide_eq_false (by omega)]; rfl⟩
            refine ⟨_, rfl, by rw [List.length_map]; exact List.length_pos_of_mem hmem, by rw [List.length_map]; exact Nat.le_trans (List.length_filter_le ..) (by rw [List.length_range]; omega), fun x hx => ?_⟩
            obtain ⟨o, ho, rfl⟩ := List.mem_map.mp hx
            obtain ⟨h5, h6⟩ := List.mem_filter.mp ho
            have hod := List.mem_range.mp h5
            have hok : o ≠ k := by
              intro z
              rw [z] at h6
              simp at h6
            refine hN2 _ ?_
            clear hN2 N2
            refine ⟨p, f, rfl, hp, hf, sw, fun v v0 v1 v2 => ⟨⟨by omega, by rw [List.length_map]; omega⟩, ?_⟩⟩
            rw [show ((o : Nat) : Int).toNat = o by omega, iD_set]
            exact key3 (b.set o v) (.im (.int (o : Nat))) (by rw [List.length_set]; exact hbl) (set_bd hb (by omega) v1) fun _ => ⟨o, hok, by rw [at_set (by omega)]; exact v2⟩
          · refine key3 b .un hbl hb fun z => ?_
            exfalso
            refine hlt ?_
            have h1 : (p : Int) ^ lo = (p : Int) ^ T * (p : Int) ^ (lo - T) := by rw [← Int.pow_add]; congr 1; omega
            have h2 := Int.le_of_dvd (NT.pow_pos (p := p) (by omega) (lo - T)) (NT.dvd_pow1 (p := p) (by omega : 0 < lo - T))
            have h3 := Int.mul_le_mul_of_nonneg_left (a := 2) (b := (p : Int) ^ (lo - T)) (c := (p : Int) ^ T) (by omega) (by omega)
            omega
        refine ifD (fun hgt => ?_) (fun hgt => ?_)
        · exact ⟨p, lo, rfl, hp, hl0, slo, fun v v0 v1 v2 => key2 v (by omega) v1 fun _ => v2⟩
        · exact ⟨_, rfl, l0, sz_up slo (by decide), fun v v0 v1 => key2 v v0 v1 fun z => absurd (one_lt.mpr z) hgt⟩
      refine ifD (fun hd1 => ?_) (fun hd1 => ?_)
      · exact key lo (Nat.le_refl _) fun _ => rfl
      · refine ⟨2, rfl, by decide, sz_up (a := 2) (by decide) (by decide), fun z z0 z1 => ifD (fun hz => ?_) (fun hz => ?_)⟩
        · exact key lo (Nat.le_refl _) fun _ => rfl
        · exact ⟨p, lo, rfl, hp, slo, fun j hj => key j hj fun h => absurd (by omega) hd1⟩
end
end SP
/-! L6 -/
set_option Elab.async false
set_option linter.all false
set_option maxRecDepth 100000
set_option maxHeartbeats 4100000
namespace SP
open PySem PySem.Spec L2 PyProof.Rows DL
theorem cut_last (c : List Int) (r : Int) : DL.cutD (iD (c ++ [r])) none (some (-1)) = iD c := by
  have hn : (iD (c ++ [r])).length = c.length + 1 := by simp [iD]
  have h1 : HT.sIx (iD (c ++ [r])).length (iD (c ++ [r])).length (some (-1)) = c.length := by
    rw [hn]
    show (if (-1 : Int) < 0 then ((-1 : Int) + ((c.length + 1 : Nat) : Int)).toNat else min (-1 : Int).toNat (c.length + 1)) = _
    rw [if_pos (by decide)]
    omega
  unfold DL.cutD
  rw [h1, HT.sIx_none, List.drop_zero, Nat.sub_zero, iD_snoc]
  exact List.take_left' (by rw [List.length_map])
theorem atD_last {c : List Int} {r : Int} {Q : D → Prop} (h : Q (.int r)) : atD (iD (c ++ [r])) (-1) Q := by
  have hn : (iD (c ++ [r])).length = c.length + 1 := by simp [iD]
  have e0 : ixN (c.length + 1) (-1) = some c.length := by
    unfold ixN
    rw [if_neg (by decide), if_pos (by omega)]
    congr 1
    omega
  have e1 : atI (iD (c ++ [r])) (-1) = some (.int r) := by
    unfold atI
    rw [hn, e0]
    show (iD (c ++ [r]))[c.length]? = _
    rw [iD_snoc]
    simp [iD]
  unfold atD
  rw [e1]; exact h
/-- the share that the generator tells -/
def Tells (e f t : Nat → Nat) (r s κ top bot : Int) : Prop := if NT.pr t NT.PL ∣ s - κ * r then top = NT.pr t NT.PL / NT.gcd (NT.pr t NT.PL) (NT.pr e NT.PL * NT.pr f NT.PL) ∧ bot = NT.pr e NT.PL * NT.pr f NT.PL / NT.gcd (NT.pr t NT.PL) (NT.pr e NT.PL * NT.pr f NT.PL) else top = 0 ∧ bot = 1
abbrev LIM : Int := 10 ^ 40 - 1
abbrev primesD : List D := NT.PL.map fun p : Nat => .int (p : Nat)
section
variable {base : Heap} {P : Program} {w : World} {K : PySem.W.Frag} {mg : Str → Option Value}
abbrev s__law_pair : Stmt := top 76
abbrev N__law_pair : List Str := ["_law_deck_here", "_law_d", "_law_m", "_law_n", "_law_p", "_law_part_here", "_law_one", "_law_other", "_law_size", "_law_far", "_law_g", "_law_meets", "_law_q", "_law_w", "_law_near", "_law_more", "_law_t", "_law_is_met", "_law_share"]
theorem sc__law_pair : FnScope N__law_pair ["_law_deck_here", "_law_d"] (defScope s__law_pair) := ⟨rfl, rfl, rfl, by decide +kernel, rfl, by decide +kernel, by decide +kernel⟩

def wd__law_pair : List D → (D → Prop) → Prop := fun ds Q => ∃ d : Nat, ds = [.dk, .int d] ∧ 1 ≤ d ∧ d ≤ 3 ∧ ∀ (e f t : Nat → Nat) (c b : List Int) (r s κ top bot : Int), VS e c r → VS f b s → c.length = d → b.length = d → NT.pr e NT.PL ≤ LIM → NT.pr f NT.PL ≤ LIM → NT.Rel e f c b t κ → Tells e f t r s κ top bot →
  Q (.tup [sD (NT.pr e NT.PL) c r, sD (NT.pr f NT.PL) b s, .tup [.int top, .int bot]])
theorem ok__law_pair (T : Txt mg) (F : FAt K mg "_law_pair" s__law_pair) (D__law_draw : Def P w K mg base 1 "_law_draw" ["_law_deck_here", "_law_below"] (spD K wd__law_draw)) (D__law_period : Def P w K mg base 3 "_law_period" ["_law_deck_here", "_law_limit"] (spD K wd__law_period))
    (D__law_part : Def P w K mg base 1 "_law_part" ["_law_m", "_law_p"] (spD K wd__law_part)) (D__law_power : Def P w K mg base 3 "_law_power" ["_law_deck_here", "_law_p", "_law_most"] (spD K wd__law_power)) (D__law_local : Def P w K mg base 4 "_law_local" ["_law_deck_here", "_law_p", "_law_q", "_law_w", "_law_d"] (spD K wd__law_local))
    (D__law_put : Def P w K mg base 2 "_law_put" ["_law_row", "_law_size", "_law_more", "_law_q"] (spD K wd__law_put)) (D__law_fraction : Def P w K mg base 2 "_law_fraction" ["_law_top", "_law_bottom"] (spD K wd__law_fraction)) :
    Def P w K mg base 5 "_law_pair" ["_law_deck_here", "_law_d"] (spD K wd__law_pair) := by
  refine def_of F (fun fa fd G => fn_D G sc__law_pair (fun ds Q h => ?_) (fun cdv A outer s0 H E hr ds Q h => ?_)) (fun _ _ _ _ _ _ us hl => match us, hl with | [_, _], _ => rfl)
  · obtain ⟨d, rfl, _⟩ := h; rfl
  · obtain ⟨d, rfl, d1, d3, hq⟩ := h
    have nd := sc__law_pair.nd
    refine ⟨_, _, (ss_cons (s_set (i := 2) nd rfl (Or.inl rfl) (q_call D__law_period (hr.mono (by decide)) (by rfl) (qa_cons (qv 0) (qa_cons (q_sub (q_pow q_int q_int) q_int) qa_nil))))
    (ss_cons (s_set (i := 3) nd rfl (Or.inl rfl) (q_call D__law_period (hr.mono (by decide)) (by rfl) (qa_cons (qv 0) (qa_cons (q_sub (q_pow q_int q_int) q_int) qa_nil))))
    (ss_cons (s_if (t_eq (q_call D__law_draw (hr.mono (by decide)) (by rfl) (qa_cons (qv 0) (qa_cons q_int qa_nil))) q_int) (ss_cons (s_set (i := 3) nd rfl (Or.inl rfl) (qv 2))
    (ss_one (s_for PassesOwn.never rfl (i_tup (q_tup (qa_cons q_int (qa_cons q_int (qa_cons q_int (qa_cons q_int (qa_cons q_int (qa_cons q_int (qa_cons q_int (qa_cons q_int (qa_cons q_int (qa_cons q_int qa_nil)))))))))))) (g_name (i := 4) nd rfl (Or.inl rfl)) (ss_cons (s_set (i := 5) nd rfl (Or.inl rfl) (q_call D__law_part (hr.mono (by decide)) (by rfl) (qa_cons (qv 2) (qa_cons (qv 4) qa_nil))))
    (ss_one (s_set (i := 3) nd rfl (Or.inl rfl) (q_ifExp (t_eq (q_call D__law_draw (hr.mono (by decide)) (by rfl) (qa_cons (qv 0) (qa_cons q_int qa_nil))) q_int) (q_mul (q_div (qv 3) (qv 5)) (q_call D__law_power (hr.mono (by decide)) (by rfl) (qa_cons (qv 0) (qa_cons (qv 4) (qa_cons (qv 5) qa_nil))))) (qv 3)))))))) ss_nil)
    (ss_cons (s_asg (q_tup (qa_cons (QN.e (n_rep (QN.s (n_lst (qa_cons q_int qa_nil))) (q_add (qv 1) q_int))) (qa_cons (QN.e (n_rep (QN.s (n_lst (qa_cons q_int qa_nil))) (q_add (qv 1) q_int))) (qa_cons q_int (qa_cons q_int (qa_cons q_int (qa_cons q_bl qa_nil))))))) (g_tup rfl (gs_cons (g_name (i := 6) nd rfl (Or.inl rfl)) (gs_cons (g_name (i := 7) nd rfl (Or.inl rfl)) (gs_cons (g_name (i := 8) nd rfl (Or.inl rfl)) (gs_cons (g_name (i := 9) nd rfl (Or.inl rfl)) (gs_cons (g_name (i := 10) nd rfl (Or.inl rfl)) (gs_cons (g_name (i := 11) nd rfl (Or.inl rfl)) gs_nil))))))))
    (ss_cons (s_for PassesOwn.never rfl (i_tup (q_tup (qa_cons q_int (qa_cons q_int (qa_cons q_int (qa_cons q_int (qa_cons q_int (qa_cons q_int (qa_cons q_int (qa_cons q_int (qa_cons q_int (qa_cons q_int qa_nil)))))))))))) (g_name (i := 4) nd rfl (Or.inl rfl)) (ss_cons (s_par (i := 12) (j := 13) rfl nd rfl rfl (by decide) rfl rfl (qa_cons (q_call D__law_part (hr.mono (by decide)) (by rfl) (qa_cons (qv 2) (qa_cons (qv 4) qa_nil))) (qa_cons (q_call D__law_part (hr.mono (by decide)) (by rfl) (qa_cons (qv 3) (qa_cons (qv 4) qa_nil))) qa_nil)) rfl)
    (ss_one (s_if (QW.t (w_or (t_gt (qv 12) q_int) (w_or1 (t_gt (qv 13) q_int)))) (ss_cons (s_asg (q_call D__law_local (hr.mono (by decide)) (by rfl) (qa_cons (qv 0) (qa_cons (qv 4) (qa_cons (qv 12) (qa_cons (qv 13) (qa_cons (qv 1) qa_nil)))))) (g_tup rfl (gs_cons (g_name (i := 14) nd rfl (Or.inl rfl)) (gs_cons (g_name (i := 15) nd rfl (Or.inl rfl)) (gs_cons (g_name (i := 16) nd rfl (Or.inl rfl)) (gs_cons (g_name (i := 17) nd rfl (Or.inl rfl)) gs_nil))))))
    (ss_cons (s_par (i := 6) (j := 7) rfl nd rfl rfl (by decide) rfl rfl (qa_cons (q_call D__law_put (hr.mono (by decide)) (by rfl) (qa_cons (qv 6) (qa_cons (qv 8) (qa_cons (qv 14) (qa_cons (qv 12) qa_nil))))) (qa_cons (q_call D__law_put (hr.mono (by decide)) (by rfl) (qa_cons (qv 7) (qa_cons (qv 9) (qa_cons (qv 15) (qa_cons (qv 13) qa_nil))))) qa_nil)) rfl)
    (ss_one (s_asg (q_tup (qa_cons (q_mul (qv 8) (qv 12)) (qa_cons (q_mul (qv 9) (qv 13)) (qa_cons (q_mul (qv 10) (qv 16)) (qa_cons (q_and (qv 11) (q_one (qv 17))) qa_nil))))) (g_tup rfl (gs_cons (g_name (i := 8) nd rfl (Or.inl rfl)) (gs_cons (g_name (i := 9) nd rfl (Or.inl rfl)) (gs_cons (g_name (i := 10) nd rfl (Or.inl rfl)) (gs_cons (g_name (i := 11) nd rfl (Or.inl rfl)) gs_nil))))))))) ss_nil))))
    (ss_cons (s_set (i := 18) nd rfl (Or.inl rfl) (q_ifExp (q_val (qv 11)) (q_call D__law_fraction (hr.mono (by decide)) (by rfl) (qa_cons (qv 10) (qa_cons (q_mul (qv 2) (qv 3)) qa_nil))) (q_tup (qa_cons q_int (qa_cons q_int qa_nil)))))
    (ss_one (s_ret (q_tup (qa_cons (q_tup (qa_cons (qv 2) (qa_cons (q_ctl call_tuple_of dc_tupL (by rfl) T.n_tuple (QN.s (n_slL (qvl 6) qo_none (qo_some (q_neg q_int))))) (qa_cons (q_ixL (qvl 6) (q_neg q_int)) qa_nil)))) (qa_cons (q_tup (qa_cons (qv 3) (qa_cons (q_ctl call_tuple_of dc_tupL (by rfl) T.n_tuple (QN.s (n_slL (qvl 7) qo_none (qo_some (q_neg q_int))))) (qa_cons (q_ixL (qvl 7) (q_neg q_int)) qa_nil)))) (qa_cons (qv 18) qa_nil)))))))))))), ?_⟩
    have l1 : (1 : Int) ≤ LIM := by decide
    have sl : Sz 138 LIM := by decide
    have s2 : Sz 2000 2 := sz_up (a := 2) (by decide) (by decide)
    refine seqG fun N hN => ⟨⟨by decide, by decide, by decide⟩, LIM, rfl, l1, sl, fun e e1 e2 => ?_⟩
    refine (show N [.im .dk, .im (.int d), .im (.int (NT.pr e NT.PL)), .un, .un, .un, .un, .un, .un, .un, .un, .un, .un, .un, .un, .un, .un, .un, .un] from hN _ ?_)
    clear hN N
    have pe : 0 < NT.pr e NT.PL := NT.pr_pos e fun p hp => hp
    have se : Sz 138 (NT.pr e NT.PL) := sz_le sl (by omega)
    refine seqG fun N hN => ⟨⟨by decide, by decide, by decide⟩, LIM, rfl, l1, sl, fun f0 f1 f2 => ?_⟩
    refine (show N [.im .dk, .im (.int d), .im (.int (NT.pr e NT.PL)), .im (.int (NT.pr f0 NT.PL)), .un, .un, .un, .un, .un, .un, .un, .un, .un, .un, .un, .un, .un, .un, .un] from hN _ ?_)
    clear hN N
    refine seqG fun N hN => ?_
    have key : ∀ (f : Nat → Nat) (x4 x5 : Slot), NT.pr f NT.PL ≤ LIM → NT.rad f NT.PL ≤ 1000 → N [.im .dk, .im (.int d), .im (.int (NT.pr e NT.PL)), .im (.int (NT.pr f NT.PL)), x4, x5, .un, .un, .un, .un, .un, .un, .un, .un, .un, .un, .un, .un, .un] := by
      intro f x4 x5 f1 f2
      refine hN _ ?_
      clear hN N
      have pf : 0 < NT.pr f NT.PL := NT.pr_pos f fun p hp => hp
      have sf : Sz 138 (NT.pr f NT.PL) := sz_le sl (by omega)
      have hdn : (((d : Nat) : Int) + 1).toNat = d + 1 := by omega
      have hrep : (List.replicate (((d : Nat) : Int) + 1).toNat [D.int 0]).flatten = iD (List.replicate d 0 ++ [0]) := by
        rw [hdn, rep0, List.replicate_succ']
      have hsz : 1 * (((d : Nat) : Int) + 1).toNat ≤ sizeLine := by rw [hdn]; exact szl (by omega)
      refine seqG fun N hN => ⟨rfl, ⟨by omega, by omega, hsz⟩, rfl, ⟨by omega, by omega, hsz⟩, rfl, ?_⟩
      rw [hrep]
      refine (show N [.im .dk, .im (.int d), .im (.int (NT.pr e NT.PL)), .im (.int (NT.pr f NT.PL)), x4, x5, .im (.lst (iD (List.replicate d 0 ++ [0]))), .im (.lst (iD (List.replicate d 0 ++ [0]))), .im (.int 1), .im (.int 1), .im (.int 1), .im (.bl true), .un, .un, .un, .un, .un, .un, .un] from hN _ ?_)
      clear hN N
      refine seqG fun N hN => ⟨rfl, ?_⟩
      refine forInv (fun p : Nat => .int (p : Nat)) (fun xs γ => ∃ (c b : List Int) (r s : Int) (T : Nat → Nat) (κ : Nat → Int) (mt : Nat → Bool) (meets : Bool) (x4 x12 x13 x14 x15 x16 x17 : Slot), γ = [.im .dk, .im (.int d), .im (.int (NT.pr e NT.PL)), .im (.int (NT.pr f NT.PL)), x4, x5, .im (.lst (iD (c ++ [r]))), .im (.lst (iD (b ++ [s]))),
        .im (.int (NT.pr (NT.mask e xs) NT.PL)), .im (.int (NT.pr (NT.mask f xs) NT.PL)), .im (.int (NT.pr (NT.mask T xs) NT.PL)), .im (.bl meets), x12, x13, x14, x15, x16, x17, .un] ∧ NT.GS e f d xs c b r s T κ mt meets) (fun γ h => ?_) (fun p xs γ h N2 hN2 => ?_) NT.PL _
        ⟨List.replicate d 0, List.replicate d 0, 0, 0, fun _ => 0, fun _ => 0, fun _ => true, true, x4, .un, .un, .un, .un, .un, .un, by rw [NT.mask_all, NT.mask_all, NT.mask_all], NT.GS.start e f d⟩
      · obtain ⟨c, b, r, s, T, κ, mt, meets, x4, x12, x13, x14, x15, x16, x17, rfl, GG⟩ := h
        rw [NT.mask_nil, NT.mask_nil, NT.mask_nil]
        have loc : ∀ p ∈ NT.PL, NT.Loc p (e p) (f p) (T p) c b r s (κ p) (mt p) := fun p hp => GG.loc p hp (by simp)
        obtain ⟨κ0, R, hm⟩ := NT.glue loc
        have hmt : meets = true ↔ NT.pr T NT.PL ∣ s - κ0 * r := by
          rw [GG.met, ← hm]
          exact ⟨fun h p hp => h p hp (by simp), fun h p hp _ => h p hp⟩
        have bc := GG.bc
        have bb := GG.bb
        rw [NT.mask_nil] at bc bb
        have V1 : VS e c r := ⟨sz_up se (by decide), e2, by rw [GG.lc]; exact d1, by rw [GG.lc]; exact d3, fun x hx => bc x (List.mem_append_left _ hx), NT.uni_of fun p hp h0 => (loc p hp).uc h0, (bc r (List.mem_append_right _ (List.mem_singleton.mpr rfl))).1, (bc r (List.mem_append_right _ (List.mem_singleton.mpr rfl))).2⟩
        have V2 : VS f b s := ⟨sz_up sf (by decide), f2, by rw [GG.lb]; exact d1, by rw [GG.lb]; exact d3, fun x hx => bb x (List.mem_append_left _ hx), NT.uni_of fun p hp h0 => (loc p hp).ub h0, (bb s (List.mem_append_right _ (List.mem_singleton.mpr rfl))).1, (bb s (List.mem_append_right _ (List.mem_singleton.mpr rfl))).2⟩
        have lc := GG.lc
        have lb := GG.lb
        refine hN _ ?_
        clear hN N
        refine seqG fun N hN => ?_
        have key2 : ∀ top bot : Int, Tells e f T r s κ0 top bot → N [.im .dk, .im (.int d), .im (.int (NT.pr e NT.PL)), .im (.int (NT.pr f NT.PL)), x4, x5, .im (.lst (iD (c ++ [r]))), .im (.lst (iD (b ++ [s]))), .im (.int (NT.pr (NT.mask e []) NT.PL)), .im (.int (NT.pr (NT.mask f []) NT.PL)), .im (.int (NT.pr T NT.PL)), .im (.bl meets), x12, x13, x14, x15, x16, x17, .im (.tup [.int top, .int bot])] := by
          intro top bot ht
          rw [NT.mask_nil, NT.mask_nil]
          refine hN _ ?_
          clear hN N
          refine atD_last ⟨rfl, ?_⟩
          refine atD_last ⟨rfl, rfl, ?_⟩
          show Q (.tup [.tup [.int (NT.pr e NT.PL), .tup (DL.cutD (iD (c ++ [r])) none (some (-1))), .int r], .tup [.int (NT.pr f NT.PL), .tup (DL.cutD (iD (b ++ [s])) none (some (-1))), .int s], .tup [.int top, .int bot]])
          rw [cut_last, cut_last]
          exact hq e f T c b r s κ0 top bot V1 V2 lc lb e1 f1 R ht
        rw [NT.mask_nil, NT.mask_nil] at key2
        have hT := NT.pr_pos T (L := NT.PL) fun p hp => hp
        cases meets with
        | true =>
          have ht := hmt.mp rfl
          refine ⟨mulOk se sf, _, _, rfl, Int.mul_pos pe pf, sz_up (szmul se sf) (by decide), key2 _ _ ?_⟩
          unfold Tells
          rw [if_pos ht]
          exact ⟨rfl, rfl⟩
        | false =>
          have ht : ¬ NT.pr T NT.PL ∣ s - κ0 * r := fun z => absurd (hmt.mpr z) (by decide)
          refine ⟨rfl, key2 0 1 ?_⟩
          unfold Tells
          rw [if_neg ht]
          exact ⟨rfl, rfl⟩
      · clear hN
        obtain ⟨c, b, r, s, T, κ, mt, meets, x4, x12, x13, x14, x15, x16, x17, rfl, GG⟩ := h
        have hp := GG.sub p List.mem_cons_self
        have hp2 := NT.PL_two hp
        have pp := NT.pow_pos (p := p) (by omega) (e p)
        have qq := NT.pow_pos (p := p) (by omega) (f p)
        have ple : (p : Int) ^ e p ≤ NT.pr e NT.PL := Int.le_of_dvd pe (NT.pow_dvd_pr e hp)
        have qle : (p : Int) ^ f p ≤ NT.pr f NT.PL := Int.le_of_dvd pf (NT.pow_dvd_pr f hp)
        have spp : Sz 138 ((p : Int) ^ e p) := sz_le se (by omega)
        have sqq : Sz 138 ((p : Int) ^ f p) := sz_le sf (by omega)
        have one_lt : ∀ j, 1 < (p : Int) ^ j ↔ 0 < j := fun j => by
          constructor
          · intro h
            rcases Nat.eq_zero_or_pos j with z | z
            · rw [z, Int.pow_zero] at h; omega
            · exact z
          · intro h
            have := Int.le_of_dvd (NT.pow_pos (p := p) (by omega) j) (NT.dvd_pow1 (p := p) h)
            omega
        refine seqG fun N3 hN3 => ⟨e, p, rfl, hp, sz_up se (by decide), f, p, rfl, hp, sz_up sf (by decide), ?_⟩
        refine (show N3 [.im .dk, .im (.int d), .im (.int (NT.pr e NT.PL)), .im (.int (NT.pr f NT.PL)), .im (.int (p : Nat)), x5, .im (.lst (iD (c ++ [r]))), .im (.lst (iD (b ++ [s]))),
          .im (.int (NT.pr (NT.mask e (p :: xs)) NT.PL)), .im (.int (NT.pr (NT.mask f (p :: xs)) NT.PL)), .im (.int (NT.pr (NT.mask T (p :: xs)) NT.PL)), .im (.bl meets), .im (.int ((p : Int) ^ e p)), .im (.int ((p : Int) ^ f p)), x14, x15, x16, x17, .un] from hN3 _ ?_)
        clear hN3 N3
        by_cases hef : 0 < e p ∨ 0 < f p
        · refine ifTrue (fun Q1 h1 => ifD (fun _ => h1) (fun z => ?_)) ?_
          · have hf1 : 1 < (p : Int) ^ f p := (one_lt _).mpr (by
              rcases hef with y | y
              · exact absurd ((one_lt _).mpr y) z
              · exact y)
            show Q1 (decide (1 < (p : Int) ^ f p))
            rw [decide_eq_true hf1]; exact h1
          · have M0 : 0 < NT.pr (NT.mask e (p :: xs)) NT.PL := NT.pr_pos _ fun p hp => hp
            have M1 : 0 < NT.pr (NT.mask f (p :: xs)) NT.PL := NT.pr_pos _ fun p hp => hp
            have M2 : 0 < NT.pr (NT.mask T (p :: xs)) NT.PL := NT.pr_pos _ fun p hp => hp
            have SM0 : Sz 138 (NT.pr (NT.mask e (p :: xs)) NT.PL) := sz_le se (by have := Int.le_of_dvd pe (NT.mask_le e (p :: xs)); omega)
            have SM1 : Sz 138 (NT.pr (NT.mask f (p :: xs)) NT.PL) := sz_le sf (by have := Int.le_of_dvd pf (NT.mask_le f (p :: xs)); omega)
            have SM2 : Sz 138 (NT.pr (NT.mask T (p :: xs)) NT.PL) := by
              have h1 : NT.pr (NT.mask T (p :: xs)) NT.PL ∣ NT.pr e NT.PL := NT.pr_dvd fun q hq => by
                unfold NT.mask
                split
                · exact Nat.zero_le _
                · rename_i hn; exact (GG.loc q hq hn).le.1
              have h2 := Int.le_of_dvd pe h1
              exact sz_le se (by omega)
            refine seqG fun N3 hN3 => ⟨p, e p, f p, d, rfl, hp, d1, d3, hef, sz_up spp (by decide), sz_up sqq (by decide), fun cn bn rn sn κ' T' m' lcn lbn L cb bb rb sb => ?_⟩
            have lcb : ∀ x ∈ cn ++ [rn], 0 ≤ x ∧ x < (p : Int) ^ e p := fun x hx => by
              rcases List.mem_append.mp hx with y | y
              · exact cb x y
              · rcases List.mem_singleton.mp y with rfl; exact rb
            have lbb : ∀ x ∈ bn ++ [sn], 0 ≤ x ∧ x < (p : Int) ^ f p := fun x hx => by
              rcases List.mem_append.mp hx with y | y
              · exact bb x y
              · rcases List.mem_singleton.mp y with rfl; exact sb
            refine (show N3 [.im .dk, .im (.int d), .im (.int (NT.pr e NT.PL)), .im (.int (NT.pr f NT.PL)), .im (.int (p : Nat)), x5, .im (.lst (iD (c ++ [r]))), .im (.lst (iD (b ++ [s]))),
              .im (.int (NT.pr (NT.mask e (p :: xs)) NT.PL)), .im (.int (NT.pr (NT.mask f (p :: xs)) NT.PL)), .im (.int (NT.pr (NT.mask T (p :: xs)) NT.PL)), .im (.bl meets), .im (.int ((p : Int) ^ e p)), .im (.int ((p : Int) ^ f p)), .im (.lst (iD (cn ++ [rn]))), .im (.lst (iD (bn ++ [sn]))), .im (.int ((p : Int) ^ T')), .im (.bl m'), .un] from hN3 _ ?_)
            clear hN3 N3
            have L1 := GG.lc
            have L2 := GG.lb
            refine seqG fun N3 hN3 => ⟨c ++ [r], cn ++ [rn], _, _, rfl, M0, pp, sz_up SM0 (by decide), sz_up spp (by decide), NT.mask_cop e hp List.mem_cons_self _, by simp; omega, by simp; omega, GG.bc, lcb, fun res1 rl1 ra1 ra2 rb1 => ?_⟩
            refine ⟨b ++ [s], bn ++ [sn], _, _, rfl, M1, qq, sz_up SM1 (by decide), sz_up sqq (by decide), NT.mask_cop f hp List.mem_cons_self _, by simp; omega, by simp; omega, GG.bb, lbb, fun res2 rl2 qa1 qa2 qb1 => ?_⟩
            obtain ⟨c', r', rfl, lc'⟩ := NT.last_split (d := d) (l := res1) (by rw [rl1]; simp; omega)
            obtain ⟨b', s', rfl, lb'⟩ := NT.last_split (d := d) (l := res2) (by rw [rl2]; simp; omega)
            obtain ⟨G1, G2⟩ := GG.step L lcn lbn lc' lb' ra1 ra2 rb1 qa1 qa2 qb1
            refine (show N3 [.im .dk, .im (.int d), .im (.int (NT.pr e NT.PL)), .im (.int (NT.pr f NT.PL)), .im (.int (p : Nat)), x5, .im (.lst (iD (c' ++ [r']))), .im (.lst (iD (b' ++ [s']))),
              .im (.int (NT.pr (NT.mask e (p :: xs)) NT.PL)), .im (.int (NT.pr (NT.mask f (p :: xs)) NT.PL)), .im (.int (NT.pr (NT.mask T (p :: xs)) NT.PL)), .im (.bl meets), .im (.int ((p : Int) ^ e p)), .im (.int ((p : Int) ^ f p)), .im (.lst (iD (cn ++ [rn]))), .im (.lst (iD (bn ++ [sn]))), .im (.int ((p : Int) ^ T')), .im (.bl m'), .un] from hN3 _ ?_)
            clear hN3 N3
            have pT := NT.pow_pos (p := p) (by omega) T'
            have tle : (p : Int) ^ T' ≤ (p : Int) ^ e p := Int.le_of_dvd pp (NT.pow_dvd L.le.1)
            have sT : Sz 138 ((p : Int) ^ T') := sz_le spp (by omega)
            have m1 := NT.mask_step (e := e) GG.nd hp
            have m2 := NT.mask_step (e := f) GG.nd hp
            refine ⟨mulOk SM0 spp, mulOk SM1 sqq, mulOk SM2 sT, ?_⟩
            rw [← m1, ← m2, ← G2]
            cases meets with
            | true => exact ⟨rfl, hN2 _ ⟨c', b', r', s', _, _, _, true && m', .im (.int (p : Nat)), .im (.int ((p : Int) ^ e p)), .im (.int ((p : Int) ^ f p)), .im (.lst (iD (cn ++ [rn]))), .im (.lst (iD (bn ++ [sn]))), .im (.int ((p : Int) ^ T')), .im (.bl m'), rfl, G1⟩⟩
            | false => exact ⟨rfl, hN2 _ ⟨c', b', r', s', _, _, _, false && m', .im (.int (p : Nat)), .im (.int ((p : Int) ^ e p)), .im (.int ((p : Int) ^ f p)), .im (.lst (iD (cn ++ [rn]))), .im (.lst (iD (bn ++ [sn]))), .im (.int ((p : Int) ^ T')), .im (.bl m'), rfl, G1⟩⟩
        · have he : e p = 0 := by omega
          have hf : f p = 0 := by omega
          obtain ⟨G1, G2⟩ := GG.skip he hf
          obtain ⟨n1, n2⟩ := List.nodup_cons.mp GG.nd
          refine ifFalse (fun Q1 h1 => ?_) ?_
          · rw [he, hf, Int.pow_zero]
            exact h1
          · refine hN2 _ ⟨c, b, r, s, _, _, _, meets, .im (.int (p : Nat)), .im (.int ((p : Int) ^ e p)), .im (.int ((p : Int) ^ f p)), x14, x15, x16, x17, ?_, G1⟩
            rw [G2, NT.mask_step GG.nd hp, NT.mask_step GG.nd hp, he, hf, Int.pow_zero, Int.mul_one, Int.mul_one]
    refine ⟨2, rfl, by decide, s2, fun z z0 z1 => ifD (fun hz => ?_) (fun hz => ?_)⟩
    · clear hN
      refine seqG fun N2 hN2 => (show N2 [.im .dk, .im (.int d), .im (.int (NT.pr e NT.PL)), .im (.int (NT.pr e NT.PL)), .un, .un, .un, .un, .un, .un, .un, .un, .un, .un, .un, .un, .un, .un, .un] from hN2 _ ?_)
      clear hN2 N2
      refine ⟨rfl, ?_⟩
      refine forInv (fun p : Nat => .int (p : Nat)) (fun xs γ => ∃ (f : Nat → Nat) (x4 x5 : Slot), γ = [.im .dk, .im (.int d), .im (.int (NT.pr e NT.PL)), .im (.int (NT.pr f NT.PL)), x4, x5, .un, .un, .un, .un, .un, .un, .un, .un, .un, .un, .un, .un, .un] ∧ xs.Nodup ∧ (∀ p ∈ xs, p ∈ NT.PL) ∧ (∀ p ∈ xs, f p = e p) ∧ ∀ p ∈ NT.PL, f p ≤ e p) (fun γ h => ?_) (fun p xs γ h N2 hN2 => ?_) NT.PL _ ⟨e, .un, .un, rfl, NT.PL_nodup, fun p hp => hp, fun p hp => rfl, fun p hp => Nat.le_refl _⟩
      · obtain ⟨f, x4, x5, rfl, _, _, _, h4⟩ := h
        have h5 := Int.le_of_dvd pe (NT.pr_dvd (e := f) (f := e) h4)
        exact key f x4 x5 (by omega) (Int.le_trans (NT.rad_mono (fun p hp => hp) h4) e2)
      · obtain ⟨f, x4, x5, rfl, h1, h2, h3, h4⟩ := h
        obtain ⟨n1, n2⟩ := List.nodup_cons.mp h1
        have hp := h2 p List.mem_cons_self
        have hfp := h3 p List.mem_cons_self
        have hp2 := NT.PL_two hp
        have pf : 0 < NT.pr f NT.PL := NT.pr_pos f fun p hp => hp
        have hfe := Int.le_of_dvd pe (NT.pr_dvd (e := f) (f := e) h4)
        have sf : Sz 138 (NT.pr f NT.PL) := sz_le se (by omega)
        have pp := NT.pow_pos (p := p) (by omega) (e p)
        have ple : (p : Int) ^ e p ≤ NT.pr e NT.PL := Int.le_of_dvd pe (NT.pow_dvd_pr e hp)
        have spp : Sz 138 ((p : Int) ^ e p) := sz_le se (by omega)
        refine seqG fun N3 hN3 => ⟨e, p, rfl, hp, sz_up se (by decide), hN3 _ ?_⟩
        clear hN3 N3
        refine ⟨2, rfl, by decide, s2, fun y y0 y1 => ifD (fun hy => ?_) (fun hy => ?_)⟩
        · refine ⟨divOk pp spp, p, e p, rfl, hp, sz_up spp (by decide), fun j hj => ?_⟩
          obtain ⟨k1, k2, k3⟩ := NT.pr_change (f := f) (p := p) (j := j) hp
          rw [hfp] at k1 k3
          have pj := NT.pow_pos (p := p) (by omega) j
          have jle : (p : Int) ^ j ≤ (p : Int) ^ e p := Int.le_of_dvd pp (NT.pow_dvd hj)
          have p0 : 0 < NT.pr (NT.put f p 0) NT.PL := NT.pr_pos _ fun p hp => hp
          have p0le : NT.pr (NT.put f p 0) NT.PL ≤ NT.pr f NT.PL := by rw [← k3]; exact Int.ediv_le_self _ (by omega)
          refine ⟨by rw [k3]; exact mulOk (sz_le sf (by omega)) (sz_le spp (by omega)), ?_⟩
          refine hN2 _ ⟨NT.put f p j, .im (.int (p : Nat)), .im (.int ((p : Int) ^ e p)), by rw [← k1]; rfl, n2, fun q hq => h2 q (List.mem_cons_of_mem _ hq), fun q hq => ?_, fun q hq => ?_⟩
          · rw [NT.put_ne fun z => n1 (by rw [← z]; exact hq)]; exact h3 q (List.mem_cons_of_mem _ hq)
          · by_cases hqp : q = p
            · subst hqp; rw [NT.put_self]; exact hj
            · rw [NT.put_ne hqp]; exact h4 q hq
        · exact hN2 _ ⟨f, _, _, rfl, n2, fun q hq => h2 q (List.mem_cons_of_mem _ hq), fun q hq => h3 q (List.mem_cons_of_mem _ hq), h4⟩
    · exact key f0 .un .un f1 f2
end
end SP
/-! F12 -/
set_option Elab.async false
set_option linter.all false
set_option maxRecDepth 100000
set_option maxHeartbeats 4100000
namespace DL
open PySem PySem.Spec L2 PyProof.Rows
/-! ## calls by keywords: binding, the values -/
theorem vals_sw2 {zs : List V} {ws : List Value} (r : Vals zs ws) : Vals (sw2 zs) (sw2 ws) := by
  cases r with
  | nil => exact .nil
  | cons h1 r => cases r with
    | nil => exact .cons h1 .nil
    | cons h2 r => cases r with
      | nil => exact .cons h2 (.cons h1 .nil)
      | cons h3 r => exact .cons h1 (.cons h2 (.cons h3 r))
theorem vals_rot3 {zs : List V} {ws : List Value} (r : Vals zs ws) : Vals (rot3 zs) (rot3 ws) := by
  cases r with
  | nil => exact .nil
  | cons h1 r => cases r with
    | nil => exact .cons h1 .nil
    | cons h2 r => cases r with
      | nil => exact .cons h1 (.cons h2 .nil)
      | cons h3 r => cases r with
        | nil => exact .cons h3 (.cons h2 (.cons h1 .nil))
        | cons h4 r => exact .cons h1 (.cons h2 (.cons h3 (.cons h4 r)))
section
variable {K : PySem.W.Frag} {J : JJ} {H : Hp}
theorem rps_sw2 : ∀ {ds : List D} {vs : List V}, Rps K J H ds vs → Rps K J H (sw2 ds) (sw2 vs)
  | [], _, h => by cases h; rfl
  | [_], _, ⟨_, _, rfl, h1, h⟩ => by cases h; exact ⟨_, _, rfl, h1, rfl⟩
  | [_, _], _, ⟨_, _, rfl, h1, _, _, rfl, h2, h⟩ => by cases h; exact ⟨_, _, rfl, h2, _, _, rfl, h1, rfl⟩
  | _ :: _ :: _ :: _, _, ⟨_, _, rfl, h1, _, _, rfl, h2, _, _, rfl, h3, h⟩ => ⟨_, _, rfl, h1, _, _, rfl, h2, _, _, rfl, h3, h⟩
theorem rps_rot3 : ∀ {ds : List D} {vs : List V}, Rps K J H ds vs → Rps K J H (rot3 ds) (rot3 vs)
  | [], _, h => by cases h; rfl
  | [_], _, ⟨_, _, rfl, h1, h⟩ => by cases h; exact ⟨_, _, rfl, h1, rfl⟩
  | [_, _], _, ⟨_, _, rfl, h1, _, _, rfl, h2, h⟩ => by cases h; exact ⟨_, _, rfl, h1, _, _, rfl, h2, rfl⟩
  | [_, _, _], _, ⟨_, _, rfl, h1, _, _, rfl, h2, _, _, rfl, h3, h⟩ => by cases h; exact ⟨_, _, rfl, h3, _, _, rfl, h2, _, _, rfl, h1, rfl⟩
  | _ :: _ :: _ :: _ :: _, _, ⟨_, _, rfl, h1, _, _, rfl, h2, _, _, rfl, h3, _, _, rfl, h4, h⟩ => ⟨_, _, rfl, h1, _, _, rfl, h2, _, _, rfl, h3, _, _, rfl, h4, h⟩
end
theorem ord_sw2 : Ord sw2 sw2 := ⟨fun h => rps_sw2 h⟩
theorem ord_rot3 : Ord rot3 rot3 := ⟨fun h => rps_rot3 h⟩
/-- the values of a call's keywords -/
structure QK (X : Cx) (kws : List Keyword) (tk : TA) (w : WL) : Prop where
  pk : PK X kws tk
  da : DA X.K tk w
section
variable {X : Cx} {nm : Option Str} {e : Expr} {kpos : Pos} {kws : List Keyword} {te : TE} {we : WE} {t : TA} {w : WL}
theorem qk_nil : QK X [] tNil wNil := ⟨pk_nil, da_nil⟩
theorem qk_cons (h : QE X e te we) (r : QK X kws t w) : QK X (⟨nm, e, kpos⟩ :: kws) (tCons te t) (wCons we w) := ⟨pk_cons h.pe r.pk, da_cons h.de r.da⟩
end
end DL
namespace SP
open PySem PySem.Spec L2 PyProof.Rows DL
theorem defK_of {P : Program} {w : World} {K : PySem.W.Frag} {mg : Str → Option Value} {base : Heap} {k : Nat} {x : Str} {ps ks : List Str} {sp : Sp} {st : Stmt} (pv : List V → List V) (pu : List Value → List Value) (F : FAt K mg x st) (h0 : ps ≠ [])
    (hr : ∀ {zs : List V} {ws : List Value}, Vals zs ws → Vals (pv zs) (pu ws)) (h : ∀ f fd, FunD K x x (defArgs st) (defBody st) (defScope st) [] [] f fd → FnOk P w K mg base CX0 k f fd ps sp)
    (hb : ∀ (kV doc pm : Value) (an : Option Addr) (cdv ct : Value) (ws : List Value), (pu ws).length = ps.length → bindArgs (PySem.W.fnOf x x (defArgs st) (defBody st) (defScope st) .none kV doc pm an cdv ct) ⟨[], ks.zip ws⟩ = pure (ps.zip (pu ws))) : DefK P w K mg base k x ps ks sp pv := by
  obtain ⟨f, fd, G, hm⟩ := F
  refine ⟨f, fd, gK pu, h f fd G, hm, G.kp, ⟨fun s us ws _ hl => ?_, fun r rz => ?_⟩⟩
  · cases us with
    | nil =>
      obtain ⟨oc, od, dV, kV, doc, pm, an, cdv, ct, osl, rfl, _, _, hD, _⟩ := G.ex
      rcases hD with (⟨_, rfl⟩ | ⟨e, _⟩)
      · exact .of_eq (hb kV doc pm an cdv ct ws hl)
      · exact absurd rfl e
    | cons _ _ => exact absurd (List.length_eq_zero_iff.mp hl.symm) h0
  · cases r with
    | nil => exact hr rz
    | cons _ _ => exact .nil
section
variable {base : Heap} {P : Program} {w : World} {K : PySem.W.Frag} {mg : Str → Option Value}
theorem kk_share_of_both (T : Txt mg) (F : FAt K mg "share_of_both" s_share_of_both) (D1 : Def P w K mg base 6 "need_stripes" ["things"] (spD K wd_need_stripes)) (D2 : Def P w K mg base 5 "share" ["one", "other"] (spD K wd_share)) :
    DefK P w K mg base 7 "share_of_both" ["one", "other"] ["other", "one"] (spD K wd_share) sw2 :=
  defK_of sw2 sw2 F (by decide) vals_sw2 (fun f fd G => fk_share_of_both T D1 D2 G) fun _ _ _ _ _ _ ws hl => match ws, hl with | [_, _], _ => rfl
theorem kk_mean (T : Txt mg) (F : FAt K mg "mean" s_mean) (D1 : Def P w K mg base 8 "need_heap" ["heap"] (spD K wd_need_heap)) (D2 : Def P w K mg base 2 "sum_of" ["parts"] (spD K wd_sum_of)) : DefK P w K mg base 9 "mean" ["heap"] ["heap"] (spD K wd_mean) (fun l => l) :=
  defK_of (fun l => l) (fun l => l) F (by decide) (fun r => r) (fun f fd G => fk_mean T D1 D2 G) fun _ _ _ _ _ _ ws hl => match ws, hl with | [_], _ => rfl
theorem kk_likeness (T : Txt mg) (F : FAt K mg "likeness" s_likeness) (D1 : Def P w K mg base 9 "need_two" ["one", "other"] (spD K wd_need_two)) (D2 : Def P w K mg base 4 "is_cell_of" ["thing", "breadth"] (spD K wd_is_cell_of))
    (D3 : Def P w K mg base 2 "joint_breadth" ["one", "other"] (spD K wd_joint_breadth)) (D4 : Def P w K mg base 1 "product_at" ["row", "cell"] (spD K wd_product_at)) (D5 : Def P w K mg base 6 "mean_of_product" ["one", "other"] (spD K wd_mean_of_product)) :
    DefK P w K mg base 10 "likeness" ["one", "other", "step"] ["step", "other", "one"] (spD K wd_likeness) rot3 :=
  defK_of rot3 rot3 F (by decide) vals_rot3 (fun f fd G => fk_likeness T D1 D2 D3 D4 D5 G) fun _ _ _ _ _ _ ws hl => match ws, hl with | [_, _, _], _ => rfl
theorem kk_do_meet (T : Txt mg) (F : FAt K mg "do_meet" s_do_meet) (D1 : Def P w K mg base 4 "cells_on" ["stripes", "breadth"] (spD K wd_cells_on)) (D2 : Def P w K mg base 7 "need_stripe_row" ["stripes"] (spD K wd_need_stripe_row)) :
    DefK P w K mg base 8 "do_meet" ["stripes"] ["stripes"] (spD K wd_do_meet) (fun l => l) :=
  defK_of (fun l => l) (fun l => l) F (by decide) (fun r => r) (fun f fd G => fk_do_meet T D1 D2 G) fun _ _ _ _ _ _ ws hl => match ws, hl with | [_], _ => rfl
theorem kk_judge_meeting (T : Txt mg) (F : FAt K mg "judge_meeting" s_judge_meeting) (D1 : Def P w K mg base 4 "cells_on" ["stripes", "breadth"] (spD K wd_cells_on)) (D2 : Def P w K mg base 6 "bar_among" ["stripes", "breadth", "numbers"] (spD K wd_bar_of))
    (D3 : Def P w K mg base 7 "need_stripe_row" ["stripes"] (spD K wd_need_stripe_row)) : DefK P w K mg base 8 "judge_meeting" ["stripes"] ["stripes"] (spD K wd_judge_meeting) (fun l => l) :=
  defK_of (fun l => l) (fun l => l) F (by decide) (fun r => r) (fun f fd G => fk_judge_meeting T D1 D2 D3 G) fun _ _ _ _ _ _ ws hl => match ws, hl with | [_], _ => rfl
end
end SP
/-! L7 -/
set_option Elab.async false
set_option linter.all false
set_option maxRecDepth 100000
set_option maxHeartbeats 4100000
namespace SP
open PySem PySem.Spec L2 PyProof.Rows DL
/-! ## the deck: two statements over data, the last one by hand -/
theorem cut_63 {ns : List Int} (h : ns.length ≤ 63) : DL.cutD (ns.map D.int) none (some 63) = ns.map D.int := by
  have hn : (ns.map D.int).length = ns.length := List.length_map _
  have h1 : HT.sIx (ns.map D.int).length (ns.map D.int).length (some 63) = ns.length := by
    rw [hn]
    have := HT.sIx_nat ns.length ns.length 63
    rw [show ((63 : Nat) : Int) = 63 from rfl] at this
    rw [this]; omega
  unfold DL.cutD
  rw [h1, HT.sIx_none, List.drop_zero, Nat.sub_zero]
  exact List.take_of_length_le (by rw [hn]; exact Nat.le_refl _)
/-- two statements over data ahead of a third -/
theorem run3 {K : PySem.W.Frag} {t1 t2 t3 : TS} {w1 w2 : WS} (h1 : DSt K t1 w1) (h2 : DSt K t2 w2) {c : Cfg} {H : Hp} {D : Ends} {P2 : Gm → Prop} (e : c.K = K) (S : Stt c H) (hw : wSeq w1 w2 { nx := P2, rt := fun _ => False } c.γ)
    (k : ∀ c' H', c'.toCal = c.toCal → Stt c' H' → P2 c'.γ → t3 D c'.σ H') : tSeq t1 (tSeq t2 t3) D c.σ H :=
  h1 c H _ _ e S hw ⟨fun c' H' e' _ S' q => h2 c' H' { nx := P2, rt := fun _ => False } _ (by rw [e']; exact e) S' q
    ⟨fun c2 H2 e2 _ S2 q2 => k c2 H2 (e2.trans e') S2 q2, fun _ _ _ _ _ q => q.elim, fun _ _ _ _ _ q => q.elim, fun _ _ _ _ _ q => q.elim, fun _ _ _ _ _ _ _ _ _ _ _ _ _ _ _ _ _ q => q.elim⟩,
    fun _ _ _ _ _ q => q.elim, fun _ _ _ _ _ q => q.elim, fun _ _ _ _ _ q => q.elim, fun _ _ _ _ _ _ _ _ _ _ _ _ _ _ _ _ _ q => q.elim⟩
section
variable {base : Heap} {P : Program} {w : World} {K : PySem.W.Frag} {mg : Str → Option Value}
abbrev s__law_deck : Stmt := top 64
abbrev N__law_deck : List Str := ["_law_script", "_law_cells", "_law_mixed", "_law_cell"]
theorem sc__law_deck : FnScope N__law_deck ["_law_script"] (defScope s__law_deck) := ⟨rfl, rfl, rfl, by decide +kernel, rfl, by decide +kernel, by decide +kernel⟩
/-- hands back a new deck of at most 63 integers -/
def sp_deck (K : PySem.W.Frag) : Sp := fun vs H Q _ => ∃ (a : Addr) (ns : List Int), vs = [.ref a] ∧ SqL K H a (ns.map V.int) ∧ ns.length ≤ 63 ∧
  ∀ (d l : Addr) (cs : List Int) (x : Int) (H' : Hp), H d = none → H l = none → d ≠ l → Same H H' → H' d = some (dkO l x 0) → H' l = some (.lst (cs.map V.int)) → cs.length ≤ 63 → Q (.ref d) H'
theorem deck_ret {K : PySem.W.Frag} {c : Cfg} {H H0 : Hp} {D : Ends} {ns cs : List Int} {x : Int} {s3 : Slot} (eK : c.K = K) (eJ : c.J = none) (eH : c.H0 = H0) (S : Stt c H) (eg : c.γ = [.im (.scr ns), .im (.lst (iD cs)), .im (.int x), s3]) (hl : cs.length ≤ 63)
    (hQ : ∀ (d l : Addr) (cs : List Int) (x : Int) (H' : Hp), H0 d = none → H0 l = none → d ≠ l → Same H0 H' → H' d = some (dkO l x 0) → H' l = some (.lst (cs.map V.int)) → cs.length ≤ 63 → D.rt (.ref d) H') :
    tRet (tDisp [(tC (.str "cells"), tRevL K (tVar 1)), (tC (.str "mixed"), tVar 2), (tC (.str "turn"), tC (.int 0))]) D c.σ H := by
  subst eK eH
  have fr : Same c.H0 H := fun b o h => S.fr b o (by rw [eJ]; exact fun z => z) h
  obtain ⟨v1, e1, a, xs, rfl, h3, h4⟩ := S.im 1 _ (by rw [eg]; rfl)
  obtain ⟨v2, e2, h5⟩ := S.im 2 _ (by rw [eg]; rfl)
  have h5' : v2 = .int x := h5
  subst h5'
  have ex : xs = cs.map V.int := Rps.ints h4
  subst ex
  have ha : H a = some (.lst (cs.map V.int)) := (hid_some.mp h3).2
  intro p hp
  have np : a ≠ p := ne_of_none ha hp
  refine ⟨_, e1, a, _, rfl, .inl (.inl (by rw [upd_ne np]; exact ha)), fun q hq => ?_⟩
  have nq : p ≠ q := fun z => by rw [← z, upd_same] at hq; cases hq
  have hq0 : H q = none := by rw [upd_ne (Ne.symm nq)] at hq; exact hq
  have free : ∀ b, H b = none → c.H0 b = none := fun b h => by
    cases z : c.H0 b with
    | none => rfl
    | some o => rw [fr b o z] at h; cases h
  refine ⟨_, e2, by rw [upd_ne nq]; exact upd_same, [(Sum.inr "cells", .ref q), (Sum.inr "mixed", .int x), (Sum.inr "turn", .int 0)], rfl, (by show 3 ≤ 15; decide), ?_⟩
  refine hQ p q cs.reverse x _ (free p hp) (free q hq0) nq (fun b o h => ?_) upd_same ?_ (by rw [List.length_reverse]; exact hl)
  · have hb := fr b o h
    have b1 : b ≠ p := ne_of_none hb hp
    have b2 : b ≠ q := ne_of_none hb hq0
    rw [upd_ne b1, upd_ne b2, upd_ne b1]; exact hb
  · rw [upd_ne (Ne.symm nq), upd_same, List.map_reverse]
theorem ok__law_deck (T : Txt mg) (F : FAt K mg "_law_deck" s__law_deck) : Def P w K mg base 1 "_law_deck" ["_law_script"] (sp_deck K) := by
  refine def_of F (fun f fd G => G.ok sc__law_deck (fun vs H Q E h => ?_) (fun cdv A outer s H vs Q E hr h => ?_)) (fun _ _ _ _ _ _ us hl => match us, hl with | [_], _ => rfl)
  · obtain ⟨a, ns, rfl, _⟩ := h; rfl
  · obtain ⟨a, ns, rfl, hS, hl, hQ⟩ := h
    have nd := sc__law_deck.nd
    have q1 : QSt (cxOf CX0 P w K mg base N__law_deck "_law_deck" (defScope s__law_deck) f cdv A outer s H E).nox ((defBody s__law_deck).getD 0 (.Pass ⟨0, 0, 0, 0⟩)) _ _ :=
      s_par (i := 1) (j := 2) rfl nd rfl rfl (by decide) rfl rfl (qa_cons (QN.e (n_lc (own := [("_law_cell", 3)]) rfl nd (ic_list (QN.s (n_slScr (qv 0) qo_none (qo_some q_int)))) (blkOk_by (N := N__law_deck) (sc := defScope s__law_deck) (by decide +kernel)) (fun _ _ _ _ _ => (g_name (i := 3) nd rfl (Or.inl rfl))) (fun _ _ _ _ _ => ts_nil) (fun _ _ _ _ _ => (q_ct call_int1 dc_int (by rfl) T.n_int (qa_cons (qv 3) qa_nil))) (by decide))) (qa_cons q_int qa_nil)) rfl
    have q2 : QSt (cxOf CX0 P w K mg base N__law_deck "_law_deck" (defScope s__law_deck) f cdv A outer s H E).nox ((defBody s__law_deck).getD 1 (.Pass ⟨0, 0, 0, 0⟩)) _ _ :=
      s_for PassesOwn.never rfl (i_list (qv 1)) (g_name (i := 3) nd rfl (Or.inl rfl)) (ss_one (s_set (i := 2) nd rfl (Or.inl rfl) (q_mod (q_ct call_int1 dc_int (by rfl) T.n_int (qa_cons (q_add (q_add (q_mul (qv 2) q_int) (q_mod (q_ct call_int1 dc_int (by rfl) T.n_int (qa_cons (qv 3) qa_nil)) q_int)) q_int) qa_nil)) q_int)))
    refine ⟨_, PSs.nox (pss_cons q1.ps (pss_cons q2.ps (pss_one (ps_ret (pe_disp (pps_cons pe_str (pe_revL (pv 1)) (pps_cons pe_str (pv 2) (pps_cons pe_str pe_int pps_nil))) rfl rfl (by decide) (by decide)))))), ?_⟩
    have S0 : Stt ⟨⟨K, none, fun _ => False, H⟩, fun _ => none, L2.start N__law_deck [.ref a], gm0 N__law_deck.length [.scr ns]⟩ H :=
      stt_start (fun b z => z.elim) (fun b z => z) trivial (Rps.one ⟨a, rfl, Same.seq (fun b o h => hid_some.mpr ⟨fun z => z, h⟩) hS⟩)
    refine run3 (P2 := fun γ => ∃ (x : Int) (s3 : Slot), γ = [.im (.scr ns), .im (.lst (iD ns)), .im (.int x), s3]) q1.ds q2.ds rfl S0 ?_ (fun c' H' e' S' q => ?_)
    · refine seqG fun N hN => ?_
      show few (DL.cutD (ns.map D.int) none (some 63)) ∧ _
      rw [cut_63 hl]
      refine ⟨few_map (by omega), lcMap D.int D.int ns [] (fun z hz R1 R2 h1 => ?_) ?_⟩
      · exact h1
      · rw [List.nil_append]
        refine (show N [.im (.scr ns), .im (.lst (iD ns)), .im (.int 69210895), .un] from hN _ ?_)
        clear hN N
        refine forInv D.int (fun _ γ => ∃ (x : Int) (s3 : Slot), γ = [.im (.scr ns), .im (.lst (iD ns)), .im (.int x), s3] ∧ Sz 64 x) (fun γ h => ?_) (fun z zs γ h N hN => ?_) ns _ ⟨69210895, .un, rfl, by decide⟩
        · obtain ⟨x, s3, rfl, _⟩ := h
          exact ⟨x, s3, rfl⟩
        · obtain ⟨x, s3, rfl, hx⟩ := h
          have hM : (0 : Int) < 2305843009213693951 := by decide
          have h1 : (0 : Int) < 2147483563 := by decide
          refine ⟨mulOk (b := 20) hx (by decide), h1, hM, hN _ ⟨_, _, rfl, ?_⟩⟩
          have h2 := Int.emod_nonneg (x * 40692 + z % 2147483563 + 691) (by decide : (2305843009213693951 : Int) ≠ 0)
          have h3 := Int.emod_lt_of_pos (x * 40692 + z % 2147483563 + 691) hM
          show Int.natAbs _ < 2 ^ 64
          omega
    · obtain ⟨x, s3, eg⟩ := q
      refine deck_ret (K := K) (congrArg Cal.K e') (congrArg Cal.J e') (congrArg Cal.H0 e') S' eg hl hQ
end
end SP
/-! M15 -/
set_option Elab.async false
set_option linter.all false
set_option maxRecDepth 100000
set_option maxHeartbeats 4100000
namespace SP
open PySem PySem.Spec L2 PyProof.Rows DL
/-! ## how the generator's share goes with units, with the order, with steps -/
/-- both ask the same -/
theorem Tells.to {e f t t' : Nat → Nat} {r s κ r' s' κ' top bot : Int} (h : Tells e f t r s κ top bot) (eq : NT.pr t' NT.PL = NT.pr t NT.PL) (hd : NT.pr t NT.PL ∣ s' - κ' * r' ↔ NT.pr t NT.PL ∣ s - κ * r) : Tells e f t' r' s' κ' top bot := by
  unfold Tells at h ⊢
  rw [eq]
  by_cases z : NT.pr t NT.PL ∣ s - κ * r
  · rw [if_pos z] at h; rw [if_pos (hd.mpr z)]; exact h
  · rw [if_neg z] at h; rw [if_neg (fun y => z (hd.mp y))]; exact h
theorem dvd_iff_of {m a b : Int} (h : m ∣ a - b) : m ∣ a ↔ m ∣ b := by
  constructor
  · intro z; have := Int.dvd_sub z h; rwa [show a - (a - b) = b by omega] at this
  · intro z; have := Int.dvd_add h z; rwa [show a - b + b = a by omega] at this
theorem Tells.shr {e f t : Nat → Nat} {c b : List Int} {r s κ top bot : Int} (h : Tells e f t r s κ top bot) (R : NT.Rel e f c b t κ) (uc : NT.Uni (NT.pr e NT.PL) c) : Shr e f c b r s top bot := fun t' φ R' => by
  have eq := R.eqG R'
  refine h.to (t' := t') eq.symm ?_
  refine dvd_iff_of ?_
  have h1 := R.eqk uc R'
  rw [show s - φ * r - (s - κ * r) = (κ - φ) * r by rw [Int.sub_mul]; omega]
  exact Int.dvd_trans h1 (Int.dvd_mul_right _ _)
/-- by a unit, from the right -/
theorem Tells.right {e f t : Nat → Nat} {r s κ top bot u v : Int} (h : Tells e f t r s κ top bot) (hn : NT.pr t NT.PL ∣ NT.pr f NT.PL) (hv : NT.pr f NT.PL ∣ u * v - 1) : Tells e f t r (u * s % NT.pr f NT.PL) (κ * u) top bot := by
  refine h.to rfl ?_
  have h1 : NT.pr t NT.PL ∣ u * s % NT.pr f NT.PL - u * s := Int.dvd_trans hn (NT.mod_dvd' _ _)
  rw [dvd_iff_of (b := u * (s - κ * r)) (by rw [show u * s % NT.pr f NT.PL - κ * u * r - u * (s - κ * r) = u * s % NT.pr f NT.PL - u * s by rw [Int.mul_sub, ← Int.mul_assoc, Int.mul_comm u κ]; omega]; exact h1)]
  constructor
  · intro z
    have h2 : NT.pr t NT.PL ∣ v * (u * (s - κ * r)) := Int.dvd_trans z (Int.dvd_mul_left _ _)
    have h3 : NT.pr t NT.PL ∣ (u * v - 1) * (s - κ * r) := Int.dvd_trans (Int.dvd_trans hn hv) (Int.dvd_mul_right _ _)
    have h4 := Int.dvd_sub h2 h3
    rwa [show v * (u * (s - κ * r)) - (u * v - 1) * (s - κ * r) = s - κ * r by rw [Int.sub_mul, Int.mul_comm u v, ← Int.mul_assoc, Int.one_mul]; omega] at h4
  · intro z; exact Int.dvd_trans z (Int.dvd_mul_left _ _)
/-- by a unit, from the left -/
theorem Tells.left {e f t : Nat → Nat} {r s κ top bot u v : Int} (h : Tells e f t r s κ top bot) (hm : NT.pr t NT.PL ∣ NT.pr e NT.PL) (hv : NT.pr e NT.PL ∣ u * v - 1) : Tells e f t (u * r % NT.pr e NT.PL) s (κ * v) top bot := by
  refine h.to rfl (dvd_iff_of ?_)
  have h1 : NT.pr t NT.PL ∣ u * r - u * r % NT.pr e NT.PL := Int.dvd_trans hm (NT.mod_dvd _ _)
  have h2 : NT.pr t NT.PL ∣ κ * v * (u * r - u * r % NT.pr e NT.PL) := Int.dvd_trans h1 (Int.dvd_mul_left _ _)
  have h3 : NT.pr t NT.PL ∣ (u * v - 1) * (κ * r) := Int.dvd_trans (Int.dvd_trans hm hv) (Int.dvd_mul_right _ _)
  have h4 := Int.dvd_sub h2 h3
  have e1 : κ * v * (u * r - u * r % NT.pr e NT.PL) - (u * v - 1) * (κ * r) = s - κ * v * (u * r % NT.pr e NT.PL) - (s - κ * r) := by
    have e2 : κ * v * (u * r) = u * v * (κ * r) := by ac_rfl
    rw [Int.mul_sub, Int.sub_mul, Int.one_mul, e2]; omega
  rwa [e1] at h4
/-- the other one first -/
theorem Tells.swap {e f t : Nat → Nat} {r s κ κ' top bot : Int} (h : Tells e f t r s κ top bot) (hk : NT.pr t NT.PL ∣ κ * κ' - 1) : Tells f e t s r κ' top bot := by
  have e0 : NT.pr f NT.PL * NT.pr e NT.PL = NT.pr e NT.PL * NT.pr f NT.PL := Int.mul_comm _ _
  have hd : NT.pr t NT.PL ∣ r - κ' * s ↔ NT.pr t NT.PL ∣ s - κ * r := by
    constructor
    · intro z
      have h1 : NT.pr t NT.PL ∣ κ * (r - κ' * s) := Int.dvd_trans z (Int.dvd_mul_left _ _)
      have h2 : NT.pr t NT.PL ∣ (κ * κ' - 1) * s := Int.dvd_trans hk (Int.dvd_mul_right _ _)
      have h3 := Int.dvd_add h1 h2
      have h4 : NT.pr t NT.PL ∣ -(κ * (r - κ' * s) + (κ * κ' - 1) * s) := Int.dvd_neg.mpr h3
      rwa [show -(κ * (r - κ' * s) + (κ * κ' - 1) * s) = s - κ * r by rw [Int.mul_sub, Int.sub_mul, Int.one_mul, ← Int.mul_assoc]; omega] at h4
    · intro z
      have h1 : NT.pr t NT.PL ∣ κ' * (s - κ * r) := Int.dvd_trans z (Int.dvd_mul_left _ _)
      have h2 : NT.pr t NT.PL ∣ (κ * κ' - 1) * r := Int.dvd_trans hk (Int.dvd_mul_right _ _)
      have h3 := Int.dvd_add h1 h2
      have h4 : NT.pr t NT.PL ∣ -(κ' * (s - κ * r) + (κ * κ' - 1) * r) := Int.dvd_neg.mpr h3
      rwa [show -(κ' * (s - κ * r) + (κ * κ' - 1) * r) = r - κ' * s by
        have e2 : κ' * (κ * r) = κ * κ' * r := by ac_rfl
        rw [Int.mul_sub, Int.sub_mul, Int.one_mul, e2]; omega] at h4
  unfold Tells at h ⊢
  rw [e0]
  by_cases z : NT.pr t NT.PL ∣ s - κ * r
  · rw [if_pos z] at h; rw [if_pos (hd.mpr z)]; exact h
  · rw [if_neg z] at h; rw [if_neg (fun y => z (hd.mp y))]; exact h
theorem dt_neg : ∀ (c st : List Int), NT.dt c (st.map fun x => -x) = - NT.dt c st
  | [], st => by simp [NT.dt]
  | _ :: _, [] => by simp [NT.dt]
  | x :: c, y :: st => by
    have ih := dt_neg c st
    simp only [NT.dt, List.map_cons, List.zip_cons_cons, List.sum_cons] at ih ⊢
    rw [ih, Int.mul_neg]; omega
theorem dt_dv {g κ : Int} {c b st : List Int} (hl : c.length = b.length) (h : NT.Dv g b κ c) : g ∣ NT.dt b st - κ * NT.dt c st := by
  have h1 := NT.sum_dvd (h := g) (x := 1) (y := κ) st b c hl.symm (fun j => by rw [Int.one_mul]; exact h j)
  have e : ∀ l m : List Int, NT.dt l m = NT.dt m l := by
    intro l
    induction l with
    | nil => intro m; simp [NT.dt]
    | cons a l ih =>
      intro m
      cases m with
      | nil => simp [NT.dt]
      | cons z m =>
        have := ih m
        simp only [NT.dt, List.zip_cons_cons, List.map_cons, List.sum_cons] at this ⊢
        rw [this, Int.mul_comm]
  rw [Int.one_mul, e st b, e st c] at h1
  exact h1
/-- both moved -/
theorem Tells.moved {e f t : Nat → Nat} {c b st : List Int} {r s κ top bot : Int} (h : Tells e f t r s κ top bot) (R : NT.Rel e f c b t κ) (hl : c.length = b.length) : Tells e f t ((r + NT.dt c st) % NT.pr e NT.PL) ((s + NT.dt b st) % NT.pr f NT.PL) κ top bot := by
  refine h.to rfl (dvd_iff_of ?_)
  have h1 : NT.pr t NT.PL ∣ (s + NT.dt b st) % NT.pr f NT.PL - (s + NT.dt b st) := Int.dvd_trans R.dn (NT.mod_dvd' _ _)
  have h2 : NT.pr t NT.PL ∣ κ * ((r + NT.dt c st) - (r + NT.dt c st) % NT.pr e NT.PL) := Int.dvd_trans (Int.dvd_trans R.dm (NT.mod_dvd _ _)) (Int.dvd_mul_left _ _)
  have h3 := dt_dv (st := st) hl R.dv
  have h4 := Int.dvd_add (Int.dvd_add h1 h2) h3
  have e1 : (s + NT.dt b st) % NT.pr f NT.PL - (s + NT.dt b st) + κ * ((r + NT.dt c st) - (r + NT.dt c st) % NT.pr e NT.PL) + (NT.dt b st - κ * NT.dt c st) = (s + NT.dt b st) % NT.pr f NT.PL - κ * ((r + NT.dt c st) % NT.pr e NT.PL) - (s - κ * r) := by
    rw [Int.mul_sub, Int.mul_add]; omega
  rwa [e1] at h4
theorem Tells.pos {e f t : Nat → Nat} {r s κ top bot : Int} (h : Tells e f t r s κ top bot) : (0 < top ↔ NT.pr t NT.PL ∣ s - κ * r) ∧ 0 < bot ∧ 0 ≤ top := by
  have ht := NT.pr_pos t (L := NT.PL) fun p hp => hp
  have he := NT.pr_pos e (L := NT.PL) fun p hp => hp
  have hf := NT.pr_pos f (L := NT.PL) fun p hp => hp
  have hb := Int.mul_pos he hf
  have hg : 0 < NT.gcd (NT.pr t NT.PL) (NT.pr e NT.PL * NT.pr f NT.PL) := NT.gcd_pos (by omega)
  have q1 : 0 < NT.pr t NT.PL / NT.gcd (NT.pr t NT.PL) (NT.pr e NT.PL * NT.pr f NT.PL) := Int.ediv_pos_of_pos_of_dvd ht (by omega) (NT.gcd_dl _ _)
  have q2 : 0 < NT.pr e NT.PL * NT.pr f NT.PL / NT.gcd (NT.pr t NT.PL) (NT.pr e NT.PL * NT.pr f NT.PL) := Int.ediv_pos_of_pos_of_dvd hb (by omega) (NT.gcd_dr _ _)
  unfold Tells at h
  by_cases z : NT.pr t NT.PL ∣ s - κ * r
  · rw [if_pos z] at h
    obtain ⟨rfl, rfl⟩ := h
    exact ⟨⟨fun _ => z, fun _ => q1⟩, q2, by omega⟩
  · rw [if_neg z] at h
    obtain ⟨rfl, rfl⟩ := h
    exact ⟨⟨fun y => absurd y (by decide), fun y => absurd y z⟩, by decide, by decide⟩
theorem Tells.size {e f t : Nat → Nat} {c b : List Int} {r s κ top bot : Int} (h : Tells e f t r s κ top bot) (R : NT.Rel e f c b t κ) (se : Sz 140 (NT.pr e NT.PL)) (sf : Sz 140 (NT.pr f NT.PL)) : Sz 280 top ∧ Sz 280 bot := by
  have ht := NT.pr_pos t (L := NT.PL) fun p hp => hp
  have he := NT.pr_pos e (L := NT.PL) fun p hp => hp
  have hf := NT.pr_pos f (L := NT.PL) fun p hp => hp
  have hb := Int.mul_pos he hf
  have h1 : NT.pr t NT.PL ≤ NT.pr e NT.PL := Int.le_of_dvd he R.dm
  have hg : 0 < NT.gcd (NT.pr t NT.PL) (NT.pr e NT.PL * NT.pr f NT.PL) := NT.gcd_pos (by omega)
  obtain ⟨p1, p2, p3⟩ := h.pos
  unfold Tells at h
  by_cases z : NT.pr t NT.PL ∣ s - κ * r
  · rw [if_pos z] at h
    obtain ⟨e1, e2⟩ := h
    have k1 : top ≤ NT.pr t NT.PL := by rw [e1]; exact Int.ediv_le_self _ (by omega)
    have k2 : bot ≤ NT.pr e NT.PL * NT.pr f NT.PL := by rw [e2]; exact Int.ediv_le_self _ (by omega)
    have k3 : Sz (140 + 140) (NT.pr e NT.PL * NT.pr f NT.PL) := szmul se sf
    have s1 : Sz 280 (NT.pr e NT.PL) := sz_up se (by decide)
    exact ⟨sz_le s1 (by omega), sz_le (a := 280) k3 (by omega)⟩
  · rw [if_neg z] at h
    obtain ⟨rfl, rfl⟩ := h
    exact ⟨sz_up (a := 1) (by decide) (by decide), sz_up (a := 1) (by decide) (by decide)⟩
/-- a row times a unit -/
theorem dv_unit {m u : Int} (c : List Int) : NT.Dv m (c.map fun x => u * x % m) u c := fun i => by
  rw [NT.at_map (fun x => u * x % m) (by simp) c i]
  exact NT.mod_dvd' _ _
theorem VS.unit {e : Nat → Nat} {c : List Int} {r u : Int} (h : VS e c r) (hu : NT.Cop u (NT.pr e NT.PL)) : VS e (c.map fun x => u * x % NT.pr e NT.PL) (u * r % NT.pr e NT.PL) := by
  have hp := h.pos
  have hb : ∀ y : Int, 0 ≤ y % NT.pr e NT.PL ∧ y % NT.pr e NT.PL < NT.pr e NT.PL := fun y => ⟨Int.emod_nonneg _ (by omega), Int.emod_lt_of_pos _ hp⟩
  refine ⟨h.sz, h.rad, by rw [List.length_map]; exact h.l1, by rw [List.length_map]; exact h.l3, fun x hx => ?_, ?_, (hb _).1, (hb _).2⟩
  · obtain ⟨y, _, rfl⟩ := List.mem_map.mp hx
    exact hb _
  · intro d d1 d2
    refine h.uni d d1 fun x hx => ?_
    have h1 := d2 _ (List.mem_map.mpr ⟨x, hx, rfl⟩)
    have h2 : d ∣ u * x := (dvd_iff_of (Int.dvd_trans d1 (NT.mod_dvd (u * x) (NT.pr e NT.PL)))).mpr h1
    exact (hu.of_dvd_right d1).symm.dvd h2
theorem VS.at {e : Nat → Nat} {c : List Int} {r r' : Int} (h : VS e c r) (h0 : 0 ≤ r') (h1 : r' < NT.pr e NT.PL) : VS e c r' := ⟨h.sz, h.rad, h.l1, h.l3, h.c0, h.uni, h0, h1⟩
/-- two stripes and their share -/
def Sh (e f : Nat → Nat) (c b : List Int) (r s top bot : Int) : Prop := ∃ (t : Nat → Nat) (κ : Int), NT.Rel e f c b t κ ∧ Tells e f t r s κ top bot
section
variable {e f : Nat → Nat} {c b : List Int} {r s top bot : Int}
theorem Sh.right (h : Sh e f c b r s top bot) {u : Int} (hu : NT.Cop u (NT.pr f NT.PL)) : Sh e f c (b.map fun x => u * x % NT.pr f NT.PL) r (u * s % NT.pr f NT.PL) top bot := by
  obtain ⟨t, κ, R, T⟩ := h
  obtain ⟨v, hv, _⟩ := NT.inv_ex hu
  exact ⟨t, κ * u, R.right (dv_unit b) hv, T.right R.dn hv⟩
theorem Sh.left (h : Sh e f c b r s top bot) {u : Int} (hu : NT.Cop u (NT.pr e NT.PL)) : Sh e f (c.map fun x => u * x % NT.pr e NT.PL) b (u * r % NT.pr e NT.PL) s top bot := by
  obtain ⟨t, κ, R, T⟩ := h
  obtain ⟨v, hv, _⟩ := NT.inv_ex hu
  exact ⟨t, κ * v, R.left (dv_unit c) hv, T.left R.dm hv⟩
theorem Sh.swap (h : Sh e f c b r s top bot) (uc : NT.Uni (NT.pr e NT.PL) c) (ub : NT.Uni (NT.pr f NT.PL) b) : Sh f e b c s r top bot := by
  obtain ⟨t, κ, R, T⟩ := h
  obtain ⟨v, hv, _⟩ := NT.inv_ex (R.kcop ub)
  exact ⟨t, v, R.swap uc hv, T.swap hv⟩
theorem Sh.moved (h : Sh e f c b r s top bot) (hl : c.length = b.length) (st : List Int) : Sh e f c b ((r + NT.dt c st) % NT.pr e NT.PL) ((s + NT.dt b st) % NT.pr f NT.PL) top bot := by
  obtain ⟨t, κ, R, T⟩ := h
  exact ⟨t, κ, R, T.moved R hl⟩
theorem Sh.shr (h : Sh e f c b r s top bot) (uc : NT.Uni (NT.pr e NT.PL) c) : Shr e f c b r s top bot := by
  obtain ⟨t, κ, R, T⟩ := h
  exact T.shr R uc
theorem Sh.meet (h : Sh e f c b r s top bot) : ∃ (t : Nat → Nat) (κ : Int), NT.Rel e f c b t κ ∧ decide (NT.pr t NT.PL ∣ s - κ * r) = decide (0 < top) := by
  obtain ⟨t, κ, R, T⟩ := h
  exact ⟨t, κ, R, decide_eq_decide.mpr T.pos.1.symm⟩
theorem Sh.size (h : Sh e f c b r s top bot) (se : Sz 140 (NT.pr e NT.PL)) (sf : Sz 140 (NT.pr f NT.PL)) : Sz 280 top ∧ Sz 280 bot ∧ 0 < bot ∧ 0 ≤ top := by
  obtain ⟨t, κ, R, T⟩ := h
  obtain ⟨h1, h2⟩ := T.size R se sf
  exact ⟨h1, h2, T.pos.2.1, T.pos.2.2⟩
end
/-- what repr asks of a pair of integers -/
theorem log_of {a : Int} (h : Sz 1900 a) : a.natAbs.log2 < 1920 := by
  by_cases h0 : a.natAbs = 0
  · rw [h0, Nat.log2_zero]; decide
  · exact (Nat.log2_lt h0).mpr (Nat.lt_of_lt_of_le h (Nat.pow_le_pow_right (by decide) (by decide)))
theorem shw2 {a b : Int} (ha : Sz 1900 a) (hb : Sz 1900 b) : Shw (.tup [.int a, .int b]) := by
  have h1 := log_of ha
  have h2 := log_of hb
  refine ⟨rfl, ?_, rfl, by show (1 : Nat) ≤ 60; decide, ?_⟩
  · show (decide (a.natAbs.log2 < 1920) && (decide (b.natAbs.log2 < 1920) && true)) = true
    rw [decide_eq_true h1, decide_eq_true h2]; rfl
  · have k1 := int_text_len_1921 h1
    have k2 := int_text_len_1921 h2
    have k3 := tupleText_len_le (PyData.shownAll [.int a, .int b])
    show (tupleText (PyData.shownAll [.int a, .int b])).length ≤ sizeLine
    refine Nat.le_trans k3 ?_
    show (PySem.Str.ofString (toString a)).length + ((PySem.Str.ofString (toString b)).length + 0) + 2 * 2 + 3 ≤ sizeLine
    have : (10000 : Nat) ≤ sizeLine := by decide
    omega
end SP
/-! L8 -/
set_option Elab.async false
set_option linter.all false
set_option maxRecDepth 100000
set_option maxHeartbeats 4100000
namespace DL
open PySem PySem.Spec L2 PyProof.Rows
theorem q_callKw {X : Cx} {k : Nat} {x : Str} {p pos : Pos} {kws : List Keyword} {ps ks : List Str} {tk : TA} {wa : WL} {wd : List D → (D → Prop) → Prop} {pv : List V → List V} {pd : List D → List D} (o : Ord pv pd) (F : DefK X.prog X.w X.K X.mg X.base k x ps ks (spD X.K wd) pv) (hr : Room k X.A) (hg : Gl X x)
    (h : QK X kws tk wa) (hall : (backToKw pos (keywordEach kws X.env)).all (·.1.isSome) = true := by rfl) (hks : (backToKw pos (keywordEach kws X.env)).filterMap (·.1) = ks := by rfl) (hdb : (x == ("__debug__" : Str)) = false := by decide) (hpl : ((backTo pos (starEach [] X.env)).any (·.1) || (backToKw pos (keywordEach kws X.env)).any (·.1.isNone)) = false := by rfl) : QE X (.Call (.Name x p) [] kws pos) (tCallK (spD X.K wd) (gK pv) E0 tNil tk) (wCall wd fun γ Q => wa γ fun ds => Q (pd ds)) :=
  q_callK o F hr hg h.pk h.da hall hks hdb hpl
end DL
namespace SP
open PySem PySem.Spec L2 PyProof.Rows DL
theorem moved_back {n s a : Int} (h0 : 0 ≤ s) (h1 : s < n) : ((s + a) % n - a) % n = s := by
  refine NT.mod_of ?_ h0 h1
  have := NT.mod_dvd' (s + a) n
  rwa [show (s + a) % n - a - s = (s + a) % n - (s + a) by omega]
/-! ### the contracts from the share -/
section
variable {e f : Nat → Nat} {c b : List Int} {r s top bot : Int}
/-- a right paper -/
def PapOk (e f : Nat → Nat) (c b : List Int) (r s top : Int) (pap : D) : Prop :=
  (0 < top ∧ ∃ cell : List Int, pap = .tup [.str "meet", tI cell] ∧ cell.length = c.length ∧ NT.pr e NT.PL ∣ NT.dt c cell - r ∧ NT.pr f NT.PL ∣ NT.dt b cell - s ∧ ∀ x ∈ cell, Sz 6000 x) ∨
  (¬ 0 < top ∧ ∃ x y : Int, pap = .tup [.str "never", barD x y] ∧ Bar (NT.pr e NT.PL) (NT.pr f NT.PL) c b r s x y)
theorem ediv_sz {n : Nat} {x g : Int} (hg : 0 < g) (hd : g ∣ x) (h : Sz n x) : Sz n (x / g) := by
  refine sz_le h ?_
  obtain ⟨k, rfl⟩ := hd
  rw [Int.mul_ediv_cancel_left _ (by omega), Int.natAbs_mul]
  exact Nat.le_mul_of_pos_left _ (by omega)
theorem shwF {x y : Int} (hy : 0 < y) (hx : Sz 1900 x) (h : Sz 1900 y) : Shw (frD x y) := by
  have hg : 0 < NT.gcd x y := NT.gcd_pos (by omega)
  exact shw2 (ediv_sz hg (NT.gcd_dl _ _) hx) (ediv_sz hg (NT.gcd_dr _ _) h)
end
theorem orF {A B : Prop} (h : B) : if false = true then A else B := by rw [if_neg (by decide)]; exact h
/-- the defs that the law calls -/
structure LawDefs (P : Program) (w : World) (K : PySem.W.Frag) (mg : Str → Option Value) (base : Heap) : Prop where
  deck : Def P w K mg base 1 "_law_deck" ["_law_script"] (sp_deck K)
  draw : Def P w K mg base 1 "_law_draw" ["_law_deck_here", "_law_below"] (spD K wd__law_draw)
  pick : Def P w K mg base 2 "_law_pick" ["_law_deck_here", "_law_some"] (spD K wd__law_pick)
  wide : Def P w K mg base 2 "_law_wide" ["_law_deck_here", "_law_below"] (spD K wd__law_wide)
  pair : Def P w K mg base 5 "_law_pair" ["_law_deck_here", "_law_d"] (spD K wd__law_pair)
  otherwise : Def P w K mg base 3 "_law_otherwise" ["_law_deck_here", "_law_stripe"] (spD K wd__law_otherwise)
  fraction : Def P w K mg base 2 "_law_fraction" ["_law_top", "_law_bottom"] (spD K wd__law_fraction)
  meeting : Def P w K mg base 2 "_law_is_meeting" ["_law_paper", "_law_one", "_law_other", "_law_meets"] (spD K wd__law_is_meeting)
  share : Def P w K mg base 7 "share_of_both" ["one", "other"] (spD K wd_share)
  shareK : DefK P w K mg base 7 "share_of_both" ["one", "other"] ["other", "one"] (spD K wd_share) sw2
  mean : Def P w K mg base 9 "mean" ["heap"] (spD K wd_mean)
  meanK : DefK P w K mg base 9 "mean" ["heap"] ["heap"] (spD K wd_mean) (fun l => l)
  like : Def P w K mg base 10 "likeness" ["one", "other", "step"] (spD K wd_likeness)
  likeK : DefK P w K mg base 10 "likeness" ["one", "other", "step"] ["step", "other", "one"] (spD K wd_likeness) rot3
  meet : Def P w K mg base 8 "do_meet" ["stripes"] (spD K wd_do_meet)
  meetK : DefK P w K mg base 8 "do_meet" ["stripes"] ["stripes"] (spD K wd_do_meet) (fun l => l)
  judge : Def P w K mg base 8 "judge_meeting" ["stripes"] (spD K wd_judge_meeting)
  judgeK : DefK P w K mg base 8 "judge_meeting" ["stripes"] ["stripes"] (spD K wd_judge_meeting) (fun l => l)
section
variable {base : Heap} {P : Program} {w : World} {K : PySem.W.Frag} {mg : Str → Option Value}
abbrev s_law : Stmt := top 81
abbrev N_law : List Str := ["_law_script", "_law_deck_here", "_law_turn", "_law_d", "_law_one", "_law_other", "_law_share", "_law_near", "_law_far", "_law_meets", "_law_told", "_law_paper", "_law_a", "_law_e", "_law_step", "_law_moved", "_law_due", "_law_at", "_law_b"]
theorem sc_law : FnScope N_law ["_law_script"] (defScope s_law) := ⟨rfl, rfl, rfl, by decide +kernel, rfl, by decide +kernel, by decide +kernel⟩

theorem law_rest (T : Txt mg) (L : LawDefs P w K mg base) {f : Addr} {cdv : Value} {s0 : Shared} {H : Hp} {E : XK} {ns : List Int} (hr : Room 11 (callerA.deeper (envOfC "law" (defScope s_law) s0.heap.objs.size f cdv))) :
    ∃ ts ws, QSs (cxOf CX0 P w K mg base N_law "law" (defScope s_law) f cdv callerA [] s0 H E).nox ((defBody s_law).drop 1) ts ws ∧
      ws { nx := fun _ => False, rt := fun d => d = .bl true } [.im (.scr ns), .im .dk, .un, .un, .un, .un, .un, .un, .un, .un, .un, .un, .un, .un, .un, .un, .un, .un, .un] := by
  have nd := sc_law.nd
  have hgd : (callerA.deeper (envOfC "law" (defScope s_law) s0.heap.objs.size f cdv)).guards = some [] := rfl
  have hun : (callerA.deeper (envOfC "law" (defScope s_law) s0.heap.objs.size f cdv)).units + 64 < cLine := by have := hr.un; omega
  obtain ⟨D__law_deck, D__law_draw, D__law_pick, D__law_wide, D__law_pair, D__law_otherwise, D__law_fraction, D__law_is_meeting, D_share_of_both, K_share_of_both, D_mean, K_mean, D_likeness, K_likeness, D_do_meet, K_do_meet, D_judge_meeting, K_judge_meeting⟩ := L
  refine ⟨_, _, (ss_cons (s_for PassesOwn.never rfl (i_range (by rfl) T.n_range (qa_cons q_int qa_nil)) (g_name (i := 2) nd rfl (Or.inl rfl)) (ss_cons (s_set (i := 3) nd rfl (Or.inl rfl) (q_call D__law_pick (hr.mono (by decide)) (by rfl) (qa_cons (qv 1) (qa_cons (QN.e (n_lst (qa_cons q_int (qa_cons q_int (qa_cons q_int (qa_cons q_int qa_nil)))))) qa_nil))))
    (ss_cons (s_asg (q_call D__law_pair (hr.mono (by decide)) (by rfl) (qa_cons (qv 1) (qa_cons (qv 3) qa_nil))) (g_tup rfl (gs_cons (g_name (i := 4) nd rfl (Or.inl rfl)) (gs_cons (g_name (i := 5) nd rfl (Or.inl rfl)) (gs_cons (g_name (i := 6) nd rfl (Or.inl rfl)) gs_nil)))))
    (ss_cons (s_par (i := 7) (j := 8) rfl nd rfl rfl (by decide) rfl rfl (qa_cons (q_call D__law_otherwise (hr.mono (by decide)) (by rfl) (qa_cons (qv 1) (qa_cons (qv 4) qa_nil))) (qa_cons (q_call D__law_otherwise (hr.mono (by decide)) (by rfl) (qa_cons (qv 1) (qa_cons (qv 5) qa_nil))) qa_nil)) rfl)
    (ss_cons (s_if (QW.t (w_or (t_neS2 (q_cb (cr_reprT hgd hun) dc_reprT (by rfl) T.n_repr (qa_cons (q_call D_share_of_both (hr.mono (by decide)) (by rfl) (qa_cons (qv 4) (qa_cons (qv 8) qa_nil))) qa_nil)) (q_cb (cr_reprT hgd hun) dc_reprT (by rfl) T.n_repr (qa_cons (qv 6) qa_nil))) (w_or1 (t_neS2 (q_cb (cr_reprT hgd hun) dc_reprT (by rfl) T.n_repr (qa_cons (q_callKw ord_sw2 K_share_of_both (hr.mono (by decide)) (by rfl) (qk_cons (qv 7) (qk_cons (qv 5) qk_nil))) qa_nil)) (q_cb (cr_reprT hgd hun) dc_reprT (by rfl) T.n_repr (qa_cons (qv 6) qa_nil)))))) (ss_one (s_ret q_bl)) ss_nil)
    (ss_cons (s_set (i := 9) nd rfl (Or.inl rfl) (q_gt (q_ixT (qv 6) q_int) q_int))
    (ss_cons (s_set (i := 10) nd rfl (Or.inl rfl) (q_ifExp (t_eq (q_call D__law_draw (hr.mono (by decide)) (by rfl) (qa_cons (qv 1) (qa_cons q_int qa_nil))) q_int) (q_call D_do_meet (hr.mono (by decide)) (by rfl) (qa_cons (q_tup (qa_cons (qv 7) (qa_cons (qv 5) qa_nil))) qa_nil)) (q_callKw ord_id K_do_meet (hr.mono (by decide)) (by rfl) (qk_cons (q_tup (qa_cons (qv 4) (qa_cons (qv 8) qa_nil))) qk_nil))))
    (ss_cons (s_if (t_neS2 (q_cb cr_reprB dc_reprB (by rfl) T.n_repr (qa_cons (qv 10) qa_nil)) (q_cb cr_reprB dc_reprB (by rfl) T.n_repr (qa_cons (qv 9) qa_nil))) (ss_one (s_ret q_bl)) ss_nil)
    (ss_cons (s_set (i := 11) nd rfl (Or.inl rfl) (q_ifExp (t_eq (q_call D__law_draw (hr.mono (by decide)) (by rfl) (qa_cons (qv 1) (qa_cons q_int qa_nil))) q_int) (q_call D_judge_meeting (hr.mono (by decide)) (by rfl) (qa_cons (q_tup (qa_cons (qv 4) (qa_cons (qv 5) qa_nil))) qa_nil)) (q_callKw ord_id K_judge_meeting (hr.mono (by decide)) (by rfl) (qk_cons (q_tup (qa_cons (qv 4) (qa_cons (qv 5) qa_nil))) qk_nil))))
    (ss_cons (s_if (t_not (q_val (q_call D__law_is_meeting (hr.mono (by decide)) (by rfl) (qa_cons (qv 11) (qa_cons (qv 4) (qa_cons (qv 5) (qa_cons (qv 9) qa_nil))))))) (ss_one (s_ret q_bl)) ss_nil)
    (ss_cons (s_par (i := 12) (j := 13) rfl nd rfl rfl (by decide) rfl rfl (qa_cons (q_add (q_call D__law_wide (hr.mono (by decide)) (by rfl) (qa_cons (qv 1) (qa_cons (q_pow q_int q_int) qa_nil))) q_int) (qa_cons (q_sub (q_neg q_int) (q_call D__law_wide (hr.mono (by decide)) (by rfl) (qa_cons (qv 1) (qa_cons (q_sub (q_pow q_int q_int) q_int) qa_nil)))) qa_nil)) rfl)
    (ss_cons (s_set (i := 12) nd rfl (Or.inl rfl) (q_ifExp (t_lt (qv 12) (q_pow q_int q_int)) (qv 12) q_int))
    (ss_cons (s_if (t_neS2 (q_cb (cr_reprT hgd hun) dc_reprT (by rfl) T.n_repr (qa_cons (q_call D_mean (hr.mono (by decide)) (by rfl) (qa_cons (q_tup (qa_cons (q_tup (qa_cons (qv 4) (qa_cons (qv 12) qa_nil))) qa_nil)) qa_nil)) qa_nil)) (q_cb (cr_reprT hgd hun) dc_reprT (by rfl) T.n_repr (qa_cons (q_call D__law_fraction (hr.mono (by decide)) (by rfl) (qa_cons (qv 12) (qa_cons (q_ixT (qv 4) q_int) qa_nil))) qa_nil))) (ss_one (s_ret q_bl)) ss_nil)
    (ss_cons (s_if (t_neS2 (q_cb (cr_reprT hgd hun) dc_reprT (by rfl) T.n_repr (qa_cons (q_callKw ord_id K_mean (hr.mono (by decide)) (by rfl) (qk_cons (q_tup (qa_cons (q_tup (qa_cons (qv 8) (qa_cons (qv 13) qa_nil))) qa_nil)) qk_nil)) qa_nil)) (q_cb (cr_reprT hgd hun) dc_reprT (by rfl) T.n_repr (qa_cons (q_call D__law_fraction (hr.mono (by decide)) (by rfl) (qa_cons (qv 13) (qa_cons (q_ixT (qv 5) q_int) qa_nil))) qa_nil))) (ss_one (s_ret q_bl)) ss_nil)
    (ss_cons (s_set (i := 14) nd rfl (Or.inl rfl) (q_ctl call_tuple_of dc_tupL (by rfl) T.n_tuple (QN.s (n_lc (own := [("_law_at", 17)]) rfl nd (QI.c (i_range (by rfl) T.n_range (qa_cons (qv 3) qa_nil))) (blkOk_by (N := N_law) (sc := defScope s_law) (by decide +kernel)) (fun _ _ _ _ _ => (g_name (i := 17) nd rfl (Or.inl rfl))) (fun _ _ _ _ _ => ts_nil) (fun _ _ _ _ _ => (q_sub (q_call D__law_wide (hr.mono (by decide)) (by rfl) (qa_cons (qv 1) (qa_cons (q_pow q_int q_int) qa_nil))) (q_call D__law_wide (hr.mono (by decide)) (by rfl) (qa_cons (qv 1) (qa_cons (q_pow q_int q_int) qa_nil))))) (by decide)))))
    (ss_cons (s_set (i := 15) nd rfl (Or.inl rfl) (q_tup (qa_cons (q_ixT (qv 5) q_int) (qa_cons (q_ixT (qv 5) q_int) (qa_cons (q_mod (q_ct call_int1 dc_int (by rfl) T.n_int (qa_cons (q_add (q_ixT (qv 5) q_int) (q_cbl (cr_sum rfl) dc_sum (by rfl) T.n_sum (QN.s (n_lc (own := [("_law_b", 18), ("_law_at", 17)]) rfl nd (QI.c (i_zip (by rfl) T.n_zip (qa_cons (q_ixT (qv 5) q_int) (qa_cons (qv 14) qa_nil)))) (blkOk_by (N := N_law) (sc := defScope s_law) (by decide +kernel)) (fun _ _ _ _ _ => (g_tup rfl (gs_cons (g_name (i := 18) nd rfl (Or.inl rfl)) (gs_cons (g_name (i := 17) nd rfl (Or.inl rfl)) gs_nil)))) (fun _ _ _ _ _ => ts_nil) (fun _ _ _ _ _ => (q_mul (qv 18) (qv 17))) (by decide))))) qa_nil)) (q_ixT (qv 5) q_int)) qa_nil)))))
    (ss_cons (s_set (i := 16) nd rfl (Or.inl rfl) (q_cb (cr_reprT hgd hun) dc_reprT (by rfl) T.n_repr (qa_cons (q_call D__law_fraction (hr.mono (by decide)) (by rfl) (qa_cons (q_mul (q_mul (qv 12) (qv 13)) (q_ixT (qv 6) q_int)) (qa_cons (q_ixT (qv 6) q_int) qa_nil))) qa_nil)))
    (ss_cons (s_if (t_neS2 (q_cb (cr_reprT hgd hun) dc_reprT (by rfl) T.n_repr (qa_cons (q_call D_likeness (hr.mono (by decide)) (by rfl) (qa_cons (q_tup (qa_cons (q_tup (qa_cons (qv 4) (qa_cons (qv 12) qa_nil))) qa_nil)) (qa_cons (q_tup (qa_cons (q_tup (qa_cons (qv 15) (qa_cons (qv 13) qa_nil))) qa_nil)) (qa_cons (qv 14) qa_nil)))) qa_nil)) (qv 16)) (ss_one (s_ret q_bl)) ss_nil)
    (ss_one (s_if (t_neS2 (q_cb (cr_reprT hgd hun) dc_reprT (by rfl) T.n_repr (qa_cons (q_callKw ord_rot3 K_likeness (hr.mono (by decide)) (by rfl) (qk_cons (q_ctl call_tuple_of dc_tupL (by rfl) T.n_tuple (QN.s (n_lc (own := [("_law_at", 17)]) rfl nd (QI.c (i_tup (qv 14))) (blkOk_by (N := N_law) (sc := defScope s_law) (by decide +kernel)) (fun _ _ _ _ _ => (g_name (i := 17) nd rfl (Or.inl rfl))) (fun _ _ _ _ _ => ts_nil) (fun _ _ _ _ _ => (q_neg (qv 17))) (by decide)))) (qk_cons (q_tup (qa_cons (q_tup (qa_cons (qv 7) (qa_cons (qv 12) qa_nil))) qa_nil)) (qk_cons (q_tup (qa_cons (q_tup (qa_cons (qv 15) (qa_cons (qv 13) qa_nil))) qa_nil)) qk_nil)))) qa_nil)) (qv 16)) (ss_one (s_ret q_bl)) ss_nil))))))))))))))))))))
    (ss_one (s_ret q_bl))), ?_⟩
  refine seqG fun N0 hN0 => ?_
  refine ⟨by decide, by decide, ?_⟩
  refine forRange (fun i => .int (i : Nat)) 2 (fun i γ => ∃ x2 x3 x4 x5 x6 x7 x8 x9 x10 x11 x12 x13 x14 x15 x16 x17 x18 : Slot, γ = [.im (.scr ns), .im .dk, x2, x3, x4, x5, x6, x7, x8, x9, x10, x11, x12, x13, x14, x15, x16, x17, x18]) (fun γ h => ?_) (fun i γ hi h Nr hNr => ?_) ⟨.un, .un, .un, .un, .un, .un, .un, .un, .un, .un, .un, .un, .un, .un, .un, .un, .un, rfl⟩
  · obtain ⟨x2, x3, x4, x5, x6, x7, x8, x9, x10, x11, x12, x13, x14, x15, x16, x17, x18, rfl⟩ := h
    exact hN0 _ rfl
  clear hN0
  obtain ⟨x2, x3, x4, x5, x6, x7, x8, x9, x10, x11, x12, x13, x14, x15, x16, x17, x18, rfl⟩ := h
  -- the breadth
  refine seqG fun N hN => ⟨rfl, _, rfl, by show 0 < 4; decide, by show 4 ≤ 1000; decide, fun d hd => ?_⟩
  obtain ⟨dn, rfl, d1, d3⟩ : ∃ dn : Nat, d = .int (dn : Nat) ∧ 1 ≤ dn ∧ dn ≤ 3 := by
    simp only [List.mem_cons, List.not_mem_nil, or_false] at hd
    rcases hd with h | h | h | h
    · exact ⟨2, h, by omega, by omega⟩
    · exact ⟨3, h, by omega, by omega⟩
    · exact ⟨1, h, by omega, by omega⟩
    · exact ⟨2, h, by omega, by omega⟩
  refine (show N [.im (.scr ns), .im .dk, .im (.int (i : Nat)), .im (.int (dn : Nat)), x4, x5, x6, x7, x8, x9, x10, x11, x12, x13, x14, x15, x16, x17, x18] from hN _ ?_)
  clear hN N hd
  -- the pair
  refine seqG fun N hN => ⟨dn, rfl, d1, d3, fun e f t c b r s κ top bot V1 V2 lc lb e1 f1 R T0 => ?_⟩
  refine (show N [.im (.scr ns), .im .dk, .im (.int (i : Nat)), .im (.int (dn : Nat)), .im (sD (NT.pr e NT.PL) c r), .im (sD (NT.pr f NT.PL) b s), .im (.tup [.int top, .int bot]), x7, x8, x9, x10, x11, x12, x13, x14, x15, x16, x17, x18] from hN _ ?_)
  clear hN N
  have S0 : Sh e f c b r s top bot := ⟨t, κ, R, T0⟩
  clear R T0
  obtain ⟨zt, zb, pb, pt⟩ := S0.size V1.sz V2.sz
  have zt4 : Sz 400 top := sz_up zt (by decide)
  have zb4 : Sz 400 bot := sz_up zb (by decide)
  -- written otherwise
  refine seqG fun N hN => ⟨e, c, r, rfl, V1, fun u hu => ?_⟩
  have V1' := V1.unit hu
  have S1 := S0.left hu
  have lc1 : (c.map fun x => u * x % NT.pr e NT.PL).length = c.length := List.length_map _
  generalize (c.map fun x => u * x % NT.pr e NT.PL) = c1 at V1' S1 lc1 ⊢
  generalize u * r % NT.pr e NT.PL = r1 at V1' S1 ⊢
  refine ⟨f, b, s, rfl, V2, fun u2 hu2 => ?_⟩
  have V2' := V2.unit hu2
  have S2 := S0.right hu2
  have lb1 : (b.map fun x => u2 * x % NT.pr f NT.PL).length = b.length := List.length_map _
  generalize (b.map fun x => u2 * x % NT.pr f NT.PL) = b1 at V2' S2 lb1 ⊢
  generalize u2 * s % NT.pr f NT.PL = s1 at V2' S2 ⊢
  refine (show N [.im (.scr ns), .im .dk, .im (.int (i : Nat)), .im (.int (dn : Nat)), .im (sD (NT.pr e NT.PL) c r), .im (sD (NT.pr f NT.PL) b s), .im (.tup [.int top, .int bot]), .im (sD (NT.pr e NT.PL) c1 r1), .im (sD (NT.pr f NT.PL) b1 s1), x9, x10, x11, x12, x13, x14, x15, x16, x17, x18] from hN _ ?_)
  clear hN N hu hu2 u u2
  have hs2 : Sz 2000 2 := sz_up (a := 2) (by decide) (by decide)
  have wtb : Shw (.tup [.int top, .int bot]) := shw2 (sz_up zt (by decide)) (sz_up zb (by decide))
  -- the share, told twice
  refine seqG fun N hN => ifFalse (fun Q1 h1 => ?_) (show N [.im (.scr ns), .im .dk, .im (.int (i : Nat)), .im (.int (dn : Nat)), .im (sD (NT.pr e NT.PL) c r), .im (sD (NT.pr f NT.PL) b s), .im (.tup [.int top, .int bot]), .im (sD (NT.pr e NT.PL) c1 r1), .im (sD (NT.pr f NT.PL) b1 s1), x9, x10, x11, x12, x13, x14, x15, x16, x17, x18] from hN _ ?_)
  · refine ⟨e, f, c, b1, r, s1, top, bot, rfl, V1, V2', by omega, S2.shr V1.uni, wtb, wtb, fun _ => ?_, fun z => absurd rfl z⟩
    refine orF ?_
    exact ⟨f, e, b, c1, s, r1, top, bot, rfl, V2, V1', by omega, (S1.swap V1'.uni V2.uni).shr V2.uni, wtb, wtb, fun _ => h1, fun z => absurd rfl z⟩
  clear hN N
  refine seqG fun N hN => (show N [.im (.scr ns), .im .dk, .im (.int (i : Nat)), .im (.int (dn : Nat)), .im (sD (NT.pr e NT.PL) c r), .im (sD (NT.pr f NT.PL) b s), .im (.tup [.int top, .int bot]), .im (sD (NT.pr e NT.PL) c1 r1), .im (sD (NT.pr f NT.PL) b1 s1), .im (.bl (decide (0 < top))), x10, x11, x12, x13, x14, x15, x16, x17, x18] from hN _ ?_)
  clear hN N
  -- whether they meet
  refine seqG fun N hN => ?_
  have key : N [.im (.scr ns), .im .dk, .im (.int (i : Nat)), .im (.int (dn : Nat)), .im (sD (NT.pr e NT.PL) c r), .im (sD (NT.pr f NT.PL) b s), .im (.tup [.int top, .int bot]), .im (sD (NT.pr e NT.PL) c1 r1), .im (sD (NT.pr f NT.PL) b1 s1), .im (.bl (decide (0 < top))), .im (.bl (decide (0 < top))), x11, x12, x13, x14, x15, x16, x17, x18] := by
    refine hN _ ?_
    clear hN N
    refine seqG fun N hN => ifFalse (fun Q1 h1 => ⟨fun _ => h1, fun z => absurd rfl z⟩) (show N [.im (.scr ns), .im .dk, .im (.int (i : Nat)), .im (.int (dn : Nat)), .im (sD (NT.pr e NT.PL) c r), .im (sD (NT.pr f NT.PL) b s), .im (.tup [.int top, .int bot]), .im (sD (NT.pr e NT.PL) c1 r1), .im (sD (NT.pr f NT.PL) b1 s1), .im (.bl (decide (0 < top))), .im (.bl (decide (0 < top))), x11, x12, x13, x14, x15, x16, x17, x18] from hN _ ?_)
    clear hN N
    -- the paper
    refine seqG fun N hN => ?_
    have key : ∀ pap, PapOk e f c b r s top pap → N [.im (.scr ns), .im .dk, .im (.int (i : Nat)), .im (.int (dn : Nat)), .im (sD (NT.pr e NT.PL) c r), .im (sD (NT.pr f NT.PL) b s), .im (.tup [.int top, .int bot]), .im (sD (NT.pr e NT.PL) c1 r1), .im (sD (NT.pr f NT.PL) b1 s1), .im (.bl (decide (0 < top))), .im (.bl (decide (0 < top))), .im pap, x12, x13, x14, x15, x16, x17, x18] := by
      intro pap hpap
      refine hN _ ?_
      clear hN N
      refine seqG fun N hN => ifFalse (fun Q1 h1 => ?_) (show N [.im (.scr ns), .im .dk, .im (.int (i : Nat)), .im (.int (dn : Nat)), .im (sD (NT.pr e NT.PL) c r), .im (sD (NT.pr f NT.PL) b s), .im (.tup [.int top, .int bot]), .im (sD (NT.pr e NT.PL) c1 r1), .im (sD (NT.pr f NT.PL) b1 s1), .im (.bl (decide (0 < top))), .im (.bl (decide (0 < top))), .im pap, x12, x13, x14, x15, x16, x17, x18] from hN _ ?_)
      · refine ⟨NT.pr e NT.PL, NT.pr f NT.PL, r, s, c, b, V1.pos, V2.pos, V1.sz, V2.sz, sz_le V1.sz (by have := V1.r0; have := V1.r1; omega), sz_le V2.sz (by have := V2.r0; have := V2.r1; omega),
          fun x hx => sz_le V1.sz (by have := V1.c0 x hx; omega), fun x hx => sz_le V2.sz (by have := V2.c0 x hx; omega), by omega, V1.l3, ?_⟩
        rcases hpap with ⟨z, cell, rfl, k1, k2, k3, k4⟩ | ⟨z, x, y, rfl, hb⟩
        · exact .inl ⟨cell, by rw [decide_eq_true z], k1, k2, k3, k4, h1⟩
        · exact .inr ⟨x, y, by rw [decide_eq_false z], hb, h1⟩
      clear hN N
      -- the tints
      refine seqG fun N hN => ⟨⟨by decide, by decide, by decide⟩, _, rfl, by decide, sz_up (a := 140) (by decide) (by decide), fun a0 ha0 ha1 => ⟨⟨by decide, by decide, by decide⟩, _, rfl, by decide, sz_up (a := 140) (by decide) (by decide), fun e0 he0 he1 => ?_⟩⟩
      have hA : (10 : Int) ^ (Int.toNat 40) = 10000000000000000000000000000000000000000 := by decide
      rw [hA] at ha1 he1
      have xa : ∃ av, av = a0 + 1 := ⟨_, rfl⟩
      have xe : ∃ ev, ev = -1 - e0 := ⟨_, rfl⟩
      obtain ⟨av, hav⟩ := xa
      obtain ⟨ev, hev⟩ := xe
      refine (show N [.im (.scr ns), .im .dk, .im (.int (i : Nat)), .im (.int (dn : Nat)), .im (sD (NT.pr e NT.PL) c r), .im (sD (NT.pr f NT.PL) b s), .im (.tup [.int top, .int bot]), .im (sD (NT.pr e NT.PL) c1 r1), .im (sD (NT.pr f NT.PL) b1 s1), .im (.bl (decide (0 < top))), .im (.bl (decide (0 < top))), .im pap, .im (.int (a0 + 1)), .im (.int (-1 - e0)), x14, x15, x16, x17, x18] from hN _ ?_)
      clear hN N
      rw [← hav, ← hev]
      have ze : Sz 140 ev := sz_le (j := 10000000000000000000000000000000000000000) (by decide) (by omega)
      have pe0 : ev ≠ 0 := by omega
      refine seqG fun N hN => ?_
      have key : ∀ av : Int, 0 < av → av < 10000000000000000000000000000000000000000 → N [.im (.scr ns), .im .dk, .im (.int (i : Nat)), .im (.int (dn : Nat)), .im (sD (NT.pr e NT.PL) c r), .im (sD (NT.pr f NT.PL) b s), .im (.tup [.int top, .int bot]), .im (sD (NT.pr e NT.PL) c1 r1), .im (sD (NT.pr f NT.PL) b1 s1), .im (.bl (decide (0 < top))), .im (.bl (decide (0 < top))), .im pap, .im (.int av), .im (.int ev), x14, x15, x16, x17, x18] := by
        clear hav av ha0 ha1 a0
        intro av pa la
        refine hN _ ?_
        clear hN N
        have za : Sz 140 av := sz_le (j := 10000000000000000000000000000000000000000) (by decide) (by omega)
        have pa0 : av ≠ 0 := by omega
        have wa1 := shwF V1.pos (sz_up za (by decide)) (sz_up V1.sz (by decide))
        have wa2 := shwF V2.pos (sz_up ze (by decide)) (sz_up V2.sz (by decide))
        -- the means
        refine seqG fun N hN => ifFalse (fun Q1 h1 => ?_) (show N [.im (.scr ns), .im .dk, .im (.int (i : Nat)), .im (.int (dn : Nat)), .im (sD (NT.pr e NT.PL) c r), .im (sD (NT.pr f NT.PL) b s), .im (.tup [.int top, .int bot]), .im (sD (NT.pr e NT.PL) c1 r1), .im (sD (NT.pr f NT.PL) b1 s1), .im (.bl (decide (0 < top))), .im (.bl (decide (0 < top))), .im pap, .im (.int av), .im (.int ev), x14, x15, x16, x17, x18] from hN _ ?_)
        · exact ⟨rfl, rfl, e, c, r, av, rfl, V1, pa0, sz_up za (by decide), wa1, av, NT.pr e NT.PL, rfl, V1.pos, sz_up V1.sz (by decide), wa1, fun _ => h1, fun z => absurd rfl z⟩
        clear hN N
        refine seqG fun N hN => ifFalse (fun Q1 h1 => ?_) (show N [.im (.scr ns), .im .dk, .im (.int (i : Nat)), .im (.int (dn : Nat)), .im (sD (NT.pr e NT.PL) c r), .im (sD (NT.pr f NT.PL) b s), .im (.tup [.int top, .int bot]), .im (sD (NT.pr e NT.PL) c1 r1), .im (sD (NT.pr f NT.PL) b1 s1), .im (.bl (decide (0 < top))), .im (.bl (decide (0 < top))), .im pap, .im (.int av), .im (.int ev), x14, x15, x16, x17, x18] from hN _ ?_)
        · exact ⟨rfl, rfl, f, b1, s1, ev, rfl, V2', pe0, sz_up ze (by decide), wa2, ev, NT.pr f NT.PL, rfl, V2.pos, sz_up V2.sz (by decide), wa2, fun _ => h1, fun z => absurd rfl z⟩
        clear hN N
        -- the step
        have htn : (dn : Int).toNat = dn := by omega
        refine seqG fun N hN => ⟨by omega, by omega, few_map (by rw [List.length_range]; omega), ?_⟩
        rw [htn]
        refine lcAny (fun i : Nat => .int (i : Nat)) (fun v => Sz 400 v) (List.range dn) [] (fun x _ R1 R2 h1 => ⟨⟨by decide, by decide, by decide⟩, _, rfl, by decide, sz_up (a := 140) (by decide) (by decide), fun x0 hx0 hx1 => ⟨⟨by decide, by decide, by decide⟩, _, rfl, by decide, sz_up (a := 240) (by decide) (by decide), fun y0 hy0 hy1 => h1 _ ?_⟩⟩) (fun v hv => by cases hv) fun st hst zst => ?_
        · have hB : (10 : Int) ^ (Int.toNat 60) = 1000000000000000000000000000000000000000000000000000000000000 := by decide
          rw [hA] at hx1
          rw [hB] at hy1
          exact sz_up (sz_le (a := 210) (j := 1000000000000000000000000000000000000000000000000000000000000) (by decide) (by omega)) (by decide)
        have hst : st.length = dn := by rw [List.length_range] at hst; simpa using hst
        refine (show N [.im (.scr ns), .im .dk, .im (.int (i : Nat)), .im (.int (dn : Nat)), .im (sD (NT.pr e NT.PL) c r), .im (sD (NT.pr f NT.PL) b s), .im (.tup [.int top, .int bot]), .im (sD (NT.pr e NT.PL) c1 r1), .im (sD (NT.pr f NT.PL) b1 s1), .im (.bl (decide (0 < top))), .im (.bl (decide (0 < top))), .im pap, .im (.int av), .im (.int ev), .im (tI st), x15, x16, x17, x18] from hN _ ?_)
        clear hN N
        -- moved
        have hlb : st.length = b.length := by omega
        have zb2 : ∀ x ∈ b, Sz 140 x := fun x hx => sz_le V2.sz (by have := V2.c0 x hx; omega)
        have pf := V2.pos
        refine seqG fun N hN => ?_
        show few (List.zipWith (fun a b => D.tup [a, b]) (iD b) (iD st)) ∧ _
        rw [zipI]
        refine ⟨few_map (by rw [List.length_zip]; omega), lcMap zI (fun p => .int (p.1 * p.2)) (b.zip st) [] (fun p hp R1 R2 h1 => ⟨mulOk (zb2 _ (List.of_mem_zip hp).1) (zst _ (List.of_mem_zip hp).2), h1⟩) ?_⟩
        refine ⟨(b.zip st).map fun p => p.1 * p.2, by rw [List.nil_append, List.map_map]; rfl, pf, rfl, ?_⟩
        refine (show N [.im (.scr ns), .im .dk, .im (.int (i : Nat)), .im (.int (dn : Nat)), .im (sD (NT.pr e NT.PL) c r), .im (sD (NT.pr f NT.PL) b s), .im (.tup [.int top, .int bot]), .im (sD (NT.pr e NT.PL) c1 r1), .im (sD (NT.pr f NT.PL) b1 s1), .im (.bl (decide (0 < top))), .im (.bl (decide (0 < top))), .im pap, .im (.int av), .im (.int ev), .im (tI st), .im (sD (NT.pr f NT.PL) b ((s + NT.dt b st) % NT.pr f NT.PL)), x16, x17, x18] from hN _ ?_)
        clear hN N
        have V2m : VS f b ((s + NT.dt b st) % NT.pr f NT.PL) := V2.at (Int.emod_nonneg _ (by omega)) (Int.emod_lt_of_pos _ pf)
        have back : ((s + NT.dt b st) % NT.pr f NT.PL - dot b st) % NT.pr f NT.PL = s := moved_back V2.r0 V2.r1
        have S3 := (S1.moved (by omega) st).swap V1'.uni V2.uni
        have back2 : r1 - dot c1 (st.map fun x => -x) = r1 + NT.dt c1 st := by
          have h1 := dt_neg c1 st
          show r1 - NT.dt c1 (st.map fun x => -x) = _
          rw [h1]; omega
        have zp : Sz 280 (av * ev) := szmul za ze
        have zq : Sz 560 (av * ev * top) := szmul zp zt
        have wd := shwF pb (sz_up zq (by decide)) (sz_up zb (by decide))
        have wd2 : Shw (frD (ev * av * top) bot) := by rw [Int.mul_comm ev av]; exact wd
        -- what is due
        refine seqG fun N hN => ⟨mulOk za ze, mulOk zp zt, av * ev * top, bot, rfl, pb, sz_up zb (by decide), wd, ?_⟩
        refine (show N [.im (.scr ns), .im .dk, .im (.int (i : Nat)), .im (.int (dn : Nat)), .im (sD (NT.pr e NT.PL) c r), .im (sD (NT.pr f NT.PL) b s), .im (.tup [.int top, .int bot]), .im (sD (NT.pr e NT.PL) c1 r1), .im (sD (NT.pr f NT.PL) b1 s1), .im (.bl (decide (0 < top))), .im (.bl (decide (0 < top))), .im pap, .im (.int av), .im (.int ev), .im (tI st), .im (sD (NT.pr f NT.PL) b ((s + NT.dt b st) % NT.pr f NT.PL)), .im (.str (D.py (frD (av * ev * top) bot)).shown), x17, x18] from hN _ ?_)
        clear hN N
        -- how alike
        refine seqG fun N hN => ifFalse (fun Q1 h1 => ?_) (show N [.im (.scr ns), .im .dk, .im (.int (i : Nat)), .im (.int (dn : Nat)), .im (sD (NT.pr e NT.PL) c r), .im (sD (NT.pr f NT.PL) b s), .im (.tup [.int top, .int bot]), .im (sD (NT.pr e NT.PL) c1 r1), .im (sD (NT.pr f NT.PL) b1 s1), .im (.bl (decide (0 < top))), .im (.bl (decide (0 < top))), .im pap, .im (.int av), .im (.int ev), .im (tI st), .im (sD (NT.pr f NT.PL) b ((s + NT.dt b st) % NT.pr f NT.PL)), .im (.str (D.py (frD (av * ev * top) bot)).shown), x17, x18] from hN _ ?_)
        · exact ⟨rfl, rfl, rfl, rfl, e, f, c, b, st, r, _, av, ev, top, bot, rfl, V1, V2m, by omega, by omega, pa0, pe0, zst, by rw [back]; exact S0.shr V1.uni, sz_up za (by decide), sz_up ze (by decide), zt4, zb4, pb, wd, fun _ => h1, fun z => absurd rfl z⟩
        clear hN N
        refine ifFalse (fun Q1 h1 => ?_) (show Nr [.im (.scr ns), .im .dk, .im (.int (i : Nat)), .im (.int (dn : Nat)), .im (sD (NT.pr e NT.PL) c r), .im (sD (NT.pr f NT.PL) b s), .im (.tup [.int top, .int bot]), .im (sD (NT.pr e NT.PL) c1 r1), .im (sD (NT.pr f NT.PL) b1 s1), .im (.bl (decide (0 < top))), .im (.bl (decide (0 < top))), .im pap, .im (.int av), .im (.int ev), .im (tI st), .im (sD (NT.pr f NT.PL) b ((s + NT.dt b st) % NT.pr f NT.PL)), .im (.str (D.py (frD (av * ev * top) bot)).shown), x17, x18] from hNr _ ⟨_, _, _, _, _, _, _, _, _, _, _, _, _, _, _, _, _, rfl⟩)
        refine ⟨few_map (by omega), lcMap D.int (fun x => .int (-x)) st [] (fun x hx R1 R2 h2 => h2) ?_⟩
        have eneg : ([] : List D) ++ st.map (fun x => D.int (-x)) = iD (st.map fun x => -x) := by rw [List.nil_append, iD, List.map_map]; rfl
        rw [eneg]
        exact ⟨rfl, rfl, rfl, rfl, f, e, b, c1, st.map fun x => -x, _, r1, ev, av, top, bot, rfl, V2m, V1', by omega, by rw [List.length_map]; omega, pe0, pa0,
          fun x hx => by obtain ⟨y, hy, rfl⟩ := List.mem_map.mp hx; exact sz_le (zst y hy) (by omega),
          by rw [back2]; exact S3.shr V2.uni, sz_up ze (by decide), sz_up za (by decide), zt4, zb4, pb, wd2, fun _ => h1, fun z => absurd (by rw [Int.mul_comm ev av]) z⟩
      exact ⟨⟨by decide, by decide, by decide⟩, ifD (fun z => key av (by omega) (by rw [hA] at z; exact z)) (fun z => key 1 (by decide) (by decide))⟩
    obtain ⟨tj, κj, Rj, qj⟩ := S0.meet
    have qj' : NT.pr tj NT.PL ∣ s - κj * r ↔ 0 < top := decide_eq_decide.mp qj
    refine ⟨2, rfl, by decide, hs2, fun z z0 z1 => ifD (fun hz => ?_) (fun hz => ?_)⟩
    · exact ⟨rfl, e, f, c, b, r, s, tj, κj, rfl, V1, V2, by omega, Rj, fun z cell k1 k2 k3 k4 => key _ (.inl ⟨qj'.mp z, cell, rfl, k1, k2, k3, k4⟩), fun z x y hb => key _ (.inr ⟨fun k => z (qj'.mpr k), x, y, rfl, hb⟩)⟩
    · exact ⟨rfl, e, f, c, b, r, s, tj, κj, rfl, V1, V2, by omega, Rj, fun z cell k1 k2 k3 k4 => key _ (.inl ⟨qj'.mp z, cell, rfl, k1, k2, k3, k4⟩), fun z x y hb => key _ (.inr ⟨fun k => z (qj'.mpr k), x, y, rfl, hb⟩)⟩
  refine ⟨2, rfl, by decide, hs2, fun z z0 z1 => ifD (fun hz => ?_) (fun hz => ?_)⟩
  · obtain ⟨tm, κm, Rm, qm⟩ := S1.meet
    refine ⟨rfl, e, f, c1, b, r1, s, tm, κm, rfl, V1', V2, by omega, Rm, ?_⟩
    rw [qm]; exact key
  · obtain ⟨tm, κm, Rm, qm⟩ := S2.meet
    refine ⟨rfl, e, f, c, b1, r, s1, tm, κm, rfl, V1, V2', by omega, Rm, ?_⟩
    rw [qm]; exact key
end
end SP
/-! L9 -/
set_option Elab.async false
set_option linter.all false
set_option maxRecDepth 100000
set_option maxHeartbeats 4100000
namespace SP
open PySem PySem.Spec L2 PyProof.Rows DL
section
variable {base : Heap} {P : Program} {w : World} {K : PySem.W.Frag} {mg : Str → Option Value}
/-! ## the law's def where it is called: nothing stands around it -/
theorem law_state {H H' : Hp} {a d l : Addr} {ns cs : List Int} {x : Int} (hS : SqL K H a (ns.map V.int)) (hd : H d = none) (hl : H l = none) (ne : d ≠ l) (sm : Same H H') (h1 : H' d = some (dkO l x 0)) (h2 : H' l = some (.lst (cs.map V.int))) (h3 : cs.length ≤ 63) :
    Stt ⟨⟨K, some (d, l), fun b => b = d ∨ b = l, H'⟩, fun _ => none, (L2.start N_law [.ref a]).set 1 (some (.ref d)), [.im (.scr ns), .im .dk, .un, .un, .un, .un, .un, .un, .un, .un, .un, .un, .un, .un, .un, .un, .un, .un, .un]⟩ H' where
  len := rfl
  im := fun i dd h => by
    match i, h with
    | 0, h =>
      cases h
      refine ⟨_, rfl, a, rfl, Same.seq (fun b o e => hid_some.mpr ⟨fun z => ?_, sm b o e⟩) hS⟩
      rcases z with (z | z) | ⟨j, z⟩
      · rw [z, hd] at e; cases e
      · rw [z, hl] at e; cases e
      · cases z
    | 1, h => cases h; exact ⟨_, rfl, d, l, rfl, rfl⟩
    | n + 2, h =>
      exfalso
      rcases n with _ | _ | _ | _ | _ | _ | _ | _ | _ | _ | _ | _ | _ | _ | _ | _ | _ | n <;> cases h
  mu := fun i dd h => by
    exfalso
    rcases i with _ | _ | _ | _ | _ | _ | _ | _ | _ | _ | _ | _ | _ | _ | _ | _ | _ | _ | _ | n <;> cases h
  own := fun i b h => by cases h
  inj := fun i j b h => by cases h
  dom := fun b h => by
    rcases h with h | h
    · show H' b ≠ none
      rw [h, h1]; simp
    · show H' b ≠ none
      rw [h, h2]; simp
  dkM := fun b h => h
  deck := ⟨ne, cs, x, 0, h1, h2, h3⟩
  fr := Fram.refl
theorem law_body (T : Txt mg) (L : LawDefs P w K mg base) {f : Addr} {cdv : Value} {s0 : Shared} {H : Hp} {E : XK} {a : Addr} {ns : List Int} (hr : Room 11 (callerA.deeper (envOfC "law" (defScope s_law) s0.heap.objs.size f cdv))) (hS : SqL K H a (ns.map V.int)) (hl : ns.length ≤ 63) :
    ∃ t, PSs (cxOf CX0 P w K mg base N_law "law" (defScope s_law) f cdv callerA [] s0 H E) (defBody s_law) t ∧ t { nx := fun _ _ => False, rt := fun v _ => v = .bl true } (L2.start N_law [.ref a]) H := by
  have nd := sc_law.nd
  obtain ⟨ts, ws, q, hw⟩ := law_rest T L (f := f) (cdv := cdv) (s0 := s0) (H := H) (E := E) (ns := ns) hr
  obtain ⟨fa, fd, G, hm, hk, hb⟩ := L.deck.ex
  refine ⟨_, PSs.nox (pss_cons (L2.ps_set (i := 1) nd rfl (Or.inr rfl) (pe_call G (hr.mono (by decide)) (by rfl) hm hk hb .nil pass0 (pa_cons (pv 0) pa_nil))) q.pss), ?_⟩
  refine ⟨_, rfl, a, ns, rfl, hS, hl, fun d l cs x H' e1 e2 e3 e4 e5 e6 e7 => ?_⟩
  refine q.ds ⟨⟨K, some (d, l), fun b => b = d ∨ b = l, H'⟩, fun _ => none, (L2.start N_law [.ref a]).set 1 (some (.ref d)), _⟩ H' _ _ rfl (law_state hS e1 e2 e3 e4 e5 e6 e7) hw
    ⟨fun c' H2 _ _ _ z => z.elim, fun c' H2 _ _ _ z => z.elim, fun c' H2 _ _ _ z => z.elim, fun v H2 dd _ r z => ?_, fun _ _ _ _ _ _ _ _ _ _ _ _ _ _ _ _ _ z => z.elim⟩
  subst z
  exact r
end
end SP
/-! L10 -/
set_option Elab.async false
set_option linter.all false
set_option maxRecDepth 100000
set_option maxHeartbeats 4100000
namespace SP
open PySem PySem.Spec L2 PyProof.Rows DL
section
variable {P : Program} {w : World} {K : PySem.W.Frag} {mg mb : Str → Option Value} {base : Heap}
/-- what the law's call is asked -/
abbrev LawR (P : Program) (w : World) (H : Hp) (s : Shared) (r : Result) (s' : Shared) : Prop := CR CX0 [] P w H s (fun v _ => v = .bl true) (fun _ _ _ => False) r s'
/-- the call, in a state whose tracked part is H -/
theorem law_run (T : Txt mg) (L : LawDefs P w K mg base) {fa : Addr} {fd : FuncData} (F : FunD K "law" "law" (defArgs s_law) (defBody s_law) (defScope s_law) [] [] fa fd) {s : Shared} {H : Hp} {a : Addr} {ns : List Int}
    (e0 : Env0 P w K mg base callerA [] s H) (hS : SqL K H a (ns.map V.int)) (hl : ns.length ≤ 63) (hr : Room 12 callerA) : codeAny (model P w) callerA (.call (.ref fa) ⟨[.ref a], []⟩) (LawR P w H s) s := by
  have bi := F.bindsA (ps := ["_law_script"]) (fun _ _ _ _ _ _ us hl => match us, hl with | [_], _ => rfl) s [.ref a] rfl
  obtain ⟨_, _, _, _, _, _, _, cv, _, _, rfl, look, hc, _, _⟩ := F.ex
  have stay : ∀ b o, base.get? b = some o → s.heap.get? b = some o := fun b o e => (e0.bs b o e).1
  have KS : K.In s.heap := e0.mod.kin.keeps stay
  have kinds : ∀ y ∈ (["_law_script"] : List Str).zip [Value.ref a], (defScope s_law).names.lookup y.1 = some .local ∨ ((defScope s_law).names.lookup y.1 = some .cell ∧ ((cellsFrom (s.heap.objs.size + 1) (defScope s_law).names []).lookup y.1).isSome = true) :=
    fun y hy => (sc_law.par y.1 (List.of_mem_zip (a := y.1) (b := y.2) hy).1).elim .inl fun z => .inr ⟨z, PySem.W.cellsFrom_some _ _ _ (.inl z)⟩
  have inside : ∀ s1 : Shared, Inv (cxOf CX0 P w K mg base N_law "law" (defScope s_law) fa cv callerA [] s H (fun _ _ _ => False)) [] (L2.start N_law [.ref a]) H s1 →
      codeAny (model P w) callerA (.func (defBody s_law) (envOfC "law" (defScope s_law) s.heap.objs.size fa cv)) (LawR P w H s) s1 := fun s1 I => by
    obtain ⟨t, ht, hq⟩ := law_body T L (f := fa) (cdv := cv) (s0 := s) (H := H) (E := fun _ _ _ => False) (hr.deeper _) hS hl
    refine codeAny_func (wpAny_mono (ht.run [] s1 _ H { nx := fun _ _ => False, rt := fun v _ => v = .bl true } I hq) (fun way s' hw => ?_) fun _ _ z => z)
    match way, hw with
    | .ret u, ⟨v, σ', H', J, rv, q⟩ => exact ⟨v, H', J.os, J.bare, J.base, J.hok, rv, q⟩
    | .next, ⟨_, _, _, q⟩ => exact q.elim
    | .brk, ⟨_, _, _, q⟩ => exact q.elim
    | .cont, ⟨_, _, _, q⟩ => exact q.elim
  exact codeAny_call_function hr.depth (KS _ _ look) rfl sc_law.co sc_law.gen rfl (PySem.W.codeRec_of KS hc) (bi _ _ _ _ (wpAny_newFunctionEnv_cells sc_law.kind kinds fun env he s1 x => by
    subst he
    exact ⟨(e0.mod.nolimit.keeps stay).keeps x.toInCall.keep, inside s1 (inv_start sc_law hr.hd e0 rfl (.cons rfl .nil) x)⟩))
/-- a heap of which nothing but the script may be tracked -/
structure Seen (P : Program) (w : World) (K : PySem.W.Frag) (h : Heap) (a : Addr) (sc : Obj) (ns : List Int) (H : Hp) : Prop where
  sq : SqL K H a (ns.map V.int)
  ok : HOk P w H h
  one : ∀ b u, H b = some u → b = a ∧ K.lookup a = none ∧ u = .frz sc (.lst (ns.map V.int))
theorem seen_ex {h : Heap} {a : Addr} {vs : List Value} {ns : List Int} (KX : K.In h) (ha : h.get? a = some { cls := .type "list", data := .seq vs.toArray }) (hi : IntsAre vs ns) (hl : ns.length ≤ sizeLine) :
    ∃ H, Seen P w K h a { cls := .type "list", data := .seq vs.toArray } ns H := by
  have rv := vals_ints hi
  by_cases hk : K.lookup a = none
  · have atA : ∀ b u, (if b = a then some (HO.frz { cls := .type "list", data := .seq vs.toArray } (.lst (ns.map V.int))) else none) = some u → b = a ∧ u = .frz { cls := .type "list", data := .seq vs.toArray } (.lst (ns.map V.int)) := fun b u z => by
      by_cases hb : b = a
      · rw [if_pos hb] at z; exact ⟨hb, (Option.some.inj z).symm⟩
      · rw [if_neg hb] at z; cases z
    refine ⟨fun b => if b = a then some (.frz { cls := .type "list", data := .seq vs.toArray } (.lst (ns.map V.int))) else none, .inl (.inr ⟨_, if_pos rfl⟩), fun b u z => ?_, fun b u z => ⟨(atA b u z).1, hk, (atA b u z).2⟩⟩
    obtain ⟨rfl, rfl⟩ := atA b u z
    exact ⟨ha, (by rw [List.length_map]; exact hl), vs, _, rv, ha⟩
  · obtain ⟨o, ho⟩ := Option.ne_none_iff_exists'.mp hk
    have e := (KX a o ho).symm.trans ha
    rw [Option.some.inj e] at ho
    exact ⟨fun _ => none, .inr ⟨_, vs.toArray, _, ho, rfl, rfl, rfl, by rw [List.size_toArray, hi.length]; exact hl, by simpa using rv⟩, fun b u z => (nomatch (show (none : Option HO) = some u from z)), fun b u z => (nomatch (show (none : Option HO) = some u from z))⟩
theorem law_at {s : Shared} {fa : Addr} {fd : FuncData} {a : Addr} {vs : List Value} {ns : List Int} (T : Txt mg) (L : ∀ base : Heap, LawDefs P w K mg base) (F : FunD K "law" "law" (defArgs s_law) (defBody s_law) (defScope s_law) [] [] fa fd)
    (KX : K.In s.heap) (hm : s.heap.Ns mainGlobals mg) (hb : s.heap.Ns builtinsNs mb) (hbb : ∀ x : Str, x ≠ "__name__" → mb x = bootBuiltins x) (hn : s.heap.NoLimit) (hg : s.gens = #[])
    (ha : s.heap.get? a = some { cls := .type "list", data := .seq vs.toArray }) (hi : IntsAre vs ns) (hl : ns.length ≤ 63) (hr : Room 12 callerA) :
    codeAny (model P w) callerA (.call (.ref fa) ⟨[.ref a], []⟩) (fun r s' => r = .ok (.ret (.bool true)) ∧ OldK s.heap s'.heap ∧ s'.os = s.os ∧ AllBare s'.gens) s := by
  obtain ⟨H, S⟩ := seen_ex (P := P) (w := w) KX ha hi (Nat.le_trans hl (by decide))
  -- what is not tracked stands in the base too
  have still : ∀ b o, s.heap.get? b = some o → (b = a → K.lookup a ≠ none ∨ ∃ es ep, o.data = .dict es ep) → (hidT s.heap H).get? b = some o := fun b o e no => hidT_get e (by
    cases q : H b with
    | none => rfl
    | some u =>
      obtain ⟨e1, e2, _⟩ := S.one b u q
      rcases no e1 with z | ⟨es, ep, z⟩
      · exact absurd e2 z
      · rw [e1, ha] at e
        rw [← Option.some.inj e] at z
        cases z)
  have names : ∀ (b : Addr) (m : Str → Option Value), s.heap.Ns b m → (hidT s.heap H).Ns b m := fun b m ⟨o, es, ep, e, d, r⟩ => ⟨o, es, ep, still b o e fun _ => .inr ⟨es, ep, d⟩, d, r⟩
  have kin : K.In (hidT s.heap H) := fun b o e => still b o (KX b o e) fun z => .inl (by rw [← z, e]; simp)
  obtain ⟨mc, l1, l2⟩ := hn
  have e0 : Env0 P w K mg (hidT s.heap H) callerA [] s H :=
    { frames := rfl, mod := ⟨kin, names _ _ hm, ⟨mb, names _ _ hb, hbb⟩, ⟨mc, names _ _ l1, l2⟩⟩, bs := fun _ _ e => of_hidT e, bsz := Nat.le_of_eq (hidT_size _ _), funs := trivial, frf := fun b z => absurd (show b ∈ ([] : List Addr) from z) (by simp), hok := S.ok, bare := .of_eq hg }
  refine codeAny_mono (law_run T (L _) F e0 S.sq hl hr) fun r s' hq => ?_
  match r, hq with
  | .error _, hq => exact hq.elim
  | .ok .next, hq => exact hq.elim
  | .ok .brk, hq => exact hq.elim
  | .ok .cont, hq => exact hq.elim
  | .ok (.ret u), ⟨v, H', os, bare, un, hok, rv, q⟩ =>
    subst q
    have eu : u = Value.bool true := rv
    refine ⟨by rw [eu], OldK.of_keep fun b o e => ?_, os, bare⟩
    cases z : H b with
    | none => exact un.keep b o e z (fun k => absurd (show b ∈ ([] : List Addr) from k) (by simp)) (by simp)
    | some u =>
      obtain ⟨e1, _, e3⟩ := S.one b u z
      rw [e3] at z
      have k1 := (S.ok b _ z).1
      have k2 := (hok b _ (un.frzs b _ _ z)).1
      rw [k1] at e
      rw [k2, e]
end
end SP
/-! END -/
set_option Elab.async false
set_option linter.all false
set_option maxRecDepth 100000
set_option maxHeartbeats 4100000
namespace SP
open PySem PySem.Spec L2 PyProof.Rows DL
section
variable {h : Heap} {K : PySem.W.Frag} {mg : Str → Option Value}
/-- every def of the text that the law reaches, put together -/
theorem all_defs (X : K.In h) (G : h.Ns mainGlobals mg) (c : HD.SaysX K) (P : Program) (w : World) (base : Heap) : LawDefs P w K mg base := by
  have T := HD.txt X G c
  have F_is_integer : FAt K mg "is_integer" s_is_integer := HD.fat X G c 0 (d := HD.d_is_integer) rfl rfl rfl
  have D_is_integer := ok_is_integer (P := P) (w := w) (base := base) T F_is_integer
  have F_are_integers : FAt K mg "are_integers" s_are_integers := HD.fat X G c 1 (d := HD.d_are_integers) rfl rfl rfl
  have D_are_integers := ok_are_integers (P := P) (w := w) (base := base) T F_are_integers D_is_integer
  have F_inverse_of : FAt K mg "inverse_of" s_inverse_of := HD.fat X G c 2 (d := HD.d_inverse_of) rfl rfl rfl
  have D_inverse_of := ok_inverse_of (P := P) (w := w) (base := base) T F_inverse_of
  have F_joint_rest : FAt K mg "joint_rest" s_joint_rest := HD.fat X G c 3 (d := HD.d_joint_rest) rfl rfl rfl
  have D_joint_rest := ok_joint_rest (P := P) (w := w) (base := base) T F_joint_rest D_inverse_of
  have F_powers_of : FAt K mg "powers_of" s_powers_of := HD.fat X G c 4 (d := HD.d_powers_of) rfl rfl rfl
  have D_powers_of := ok_powers_of (P := P) (w := w) (base := base) T F_powers_of
  have F_is_period_number : FAt K mg "is_period_number" s_is_period_number := HD.fat X G c 5 (d := HD.d_is_period_number) rfl rfl rfl
  have D_is_period_number := ok_is_period_number (P := P) (w := w) (base := base) T F_is_period_number D_is_integer
  have F_is_cell_row : FAt K mg "is_cell_row" s_is_cell_row := HD.fat X G c 6 (d := HD.d_is_cell_row) rfl rfl rfl
  have D_is_cell_row := ok_is_cell_row (P := P) (w := w) (base := base) T F_is_cell_row D_are_integers
  have F_is_cell_of : FAt K mg "is_cell_of" s_is_cell_of := HD.fat X G c 7 (d := HD.d_is_cell_of) rfl rfl rfl
  have D_is_cell_of := ok_is_cell_of (P := P) (w := w) (base := base) T F_is_cell_of D_is_cell_row
  have F_product_at : FAt K mg "product_at" s_product_at := HD.fat X G c 8 (d := HD.d_product_at) rfl rfl rfl
  have D_product_at := ok_product_at (P := P) (w := w) (base := base) T F_product_at
  have F_cell_sum : FAt1 K mg "cell_sum" s_cell_sum := HD.fat X G c 9 (d := HD.d_cell_sum) rfl rfl rfl
  have D_cell_sum := ok_cell_sum (P := P) (w := w) (base := base) T F_cell_sum
  have F_rests_by : FAt K mg "rests_by" s_rests_by := HD.fat X G c 10 (d := HD.d_rests_by) rfl rfl rfl
  have D_rests_by := ok_rests_by (P := P) (w := w) (base := base) T F_rests_by
  have F_is_class_row : FAt K mg "is_class_row" s_is_class_row := HD.fat X G c 11 (d := HD.d_is_class_row) rfl rfl rfl
  have D_is_class_row := ok_is_class_row (P := P) (w := w) (base := base) T F_is_class_row D_is_cell_row
  have F_is_stripe_row : FAt K mg "is_stripe_row" s_is_stripe_row := HD.fat X G c 12 (d := HD.d_is_stripe_row) rfl rfl rfl
  have D_is_stripe_row := ok_is_stripe_row (P := P) (w := w) (base := base) T F_is_stripe_row D_is_integer D_is_period_number D_is_class_row
  have F_unit_of : FAt K mg "unit_of" s_unit_of := HD.fat X G c 13 (d := HD.d_unit_of) rfl rfl rfl
  have D_unit_of := ok_unit_of (P := P) (w := w) (base := base) T F_unit_of D_powers_of D_inverse_of D_joint_rest
  have F_is_heap_pair : FAt K mg "is_heap_pair" s_is_heap_pair := HD.fat X G c 14 (d := HD.d_is_heap_pair) rfl rfl rfl
  have D_is_heap_pair := ok_is_heap_pair (P := P) (w := w) (base := base) T F_is_heap_pair D_is_integer D_is_stripe_row
  have F_is_heap_value : FAt K mg "is_heap_value" s_is_heap_value := HD.fat X G c 15 (d := HD.d_is_heap_value) rfl rfl rfl
  have D_is_heap_value := ok_is_heap_value (P := P) (w := w) (base := base) T F_is_heap_value D_is_heap_pair
  have F_heap_breadth : FAt K mg "heap_breadth" s_heap_breadth := HD.fat X G c 16 (d := HD.d_heap_breadth) rfl rfl rfl
  have D_heap_breadth := ok_heap_breadth (P := P) (w := w) (base := base) T F_heap_breadth
  have F_joint_breadth : FAt K mg "joint_breadth" s_joint_breadth := HD.fat X G c 17 (d := HD.d_joint_breadth) rfl rfl rfl
  have D_joint_breadth := ok_joint_breadth (P := P) (w := w) (base := base) T F_joint_breadth D_heap_breadth
  have F_need_heap : FAt K mg "need_heap" s_need_heap := HD.fat X G c 18 (d := HD.d_need_heap) rfl rfl rfl
  have D_need_heap := ok_need_heap (P := P) (w := w) (base := base) T F_need_heap D_is_heap_value
  have F_need_two : FAt K mg "need_two" s_need_two := HD.fat X G c 19 (d := HD.d_need_two) rfl rfl rfl
  have D_need_two := ok_need_two (P := P) (w := w) (base := base) T F_need_two D_heap_breadth D_need_heap
  have F_need_stripes : FAt K mg "need_stripes" s_need_stripes := HD.fat X G c 20 (d := HD.d_need_stripes) rfl rfl rfl
  have D_need_stripes := ok_need_stripes (P := P) (w := w) (base := base) T F_need_stripes D_is_stripe_row
  have F_lowest : FAt K mg "lowest" s_lowest := HD.fat X G c 21 (d := HD.d_lowest) rfl rfl rfl
  have D_lowest := ok_lowest (P := P) (w := w) (base := base) T F_lowest
  have F_common_factor : FAt K mg "common_factor" s_common_factor := HD.fat X G c 22 (d := HD.d_common_factor) rfl rfl rfl
  have D_common_factor := ok_common_factor (P := P) (w := w) (base := base) T F_common_factor D_powers_of D_inverse_of D_joint_rest D_rests_by D_unit_of
  have F_share : FAt K mg "share" s_share := HD.fat X G c 23 (d := HD.d_share) rfl rfl rfl
  have D_share := ok_share (P := P) (w := w) (base := base) T F_share D_lowest D_common_factor
  have F_share_of_both : FAt K mg "share_of_both" s_share_of_both := HD.fat X G c 24 (d := HD.d_share_of_both) rfl rfl rfl
  have D_share_of_both := ok_share_of_both (P := P) (w := w) (base := base) T F_share_of_both D_need_stripes D_share
  have F_sum_of : FAt K mg "sum_of" s_sum_of := HD.fat X G c 25 (d := HD.d_sum_of) rfl rfl rfl
  have D_sum_of := ok_sum_of (P := P) (w := w) (base := base) T F_sum_of D_lowest
  have F_mean_of_product : FAt K mg "mean_of_product" s_mean_of_product := HD.fat X G c 26 (d := HD.d_mean_of_product) rfl rfl rfl
  have D_mean_of_product := ok_mean_of_product (P := P) (w := w) (base := base) T F_mean_of_product D_share D_sum_of
  have F_mean : FAt K mg "mean" s_mean := HD.fat X G c 27 (d := HD.d_mean) rfl rfl rfl
  have D_mean := ok_mean (P := P) (w := w) (base := base) T F_mean D_need_heap D_sum_of
  have F_likeness : FAt K mg "likeness" s_likeness := HD.fat X G c 28 (d := HD.d_likeness) rfl rfl rfl
  have D_likeness := ok_likeness (P := P) (w := w) (base := base) T F_likeness D_need_two D_is_cell_of D_joint_breadth D_product_at D_mean_of_product
  have F_unit_steps : FAt K mg "unit_steps" s_unit_steps := HD.fat X G c 29 (d := HD.d_unit_steps) rfl rfl rfl
  have D_unit_steps := ok_unit_steps (P := P) (w := w) (base := base) T F_unit_steps
  have F_gathered_steps : FAt K mg "gathered_steps" s_gathered_steps := HD.fat X G c 30 (d := HD.d_gathered_steps) rfl rfl rfl
  have D_gathered_steps := ok_gathered_steps (P := P) (w := w) (base := base) T F_gathered_steps D_product_at D_cell_sum
  have F_narrowed : FAt K mg "narrowed" s_narrowed := HD.fat X G c 31 (d := HD.d_narrowed) rfl rfl rfl
  have D_narrowed := ok_narrowed (P := P) (w := w) (base := base) T F_narrowed D_inverse_of D_product_at D_cell_sum D_gathered_steps
  have F_cells_on : FAt K mg "cells_on" s_cells_on := HD.fat X G c 32 (d := HD.d_cells_on) rfl rfl rfl
  have D_cells_on := ok_cells_on (P := P) (w := w) (base := base) T F_cells_on D_unit_steps D_narrowed
  have F_common_period : FAt K mg "common_period" s_common_period := HD.fat X G c 33 (d := HD.d_common_period) rfl rfl rfl
  have D_common_period := ok_common_period (P := P) (w := w) (base := base) T F_common_period
  have F_relations_of : FAt K mg "relations_of" s_relations_of := HD.fat X G c 34 (d := HD.d_relations_of) rfl rfl rfl
  have D_relations_of := ok_relations_of (P := P) (w := w) (base := base) T F_relations_of D_unit_steps D_narrowed D_common_period
  have F_bar_of : FAt K mg "bar_of" s_bar_of := HD.fat X G c 35 (d := HD.d_bar_of) rfl rfl rfl
  have D_bar_of := ok_bar_of (P := P) (w := w) (base := base) T F_bar_of D_product_at D_relations_of
  have F_few_that_bar : FAt K mg "few_that_bar" s_few_that_bar := HD.fat X G c 36 (d := HD.d_few_that_bar) rfl rfl rfl
  have D_few_that_bar := ok_few_that_bar (P := P) (w := w) (base := base) T F_few_that_bar D_cells_on
  have F_bar_among : FAt K mg "bar_among" s_bar_among := HD.fat X G c 37 (d := HD.d_bar_among) rfl rfl rfl
  have D_bar_among := ok_bar_among (P := P) (w := w) (base := base) T F_bar_among D_bar_of D_few_that_bar
  have F_are_stripes : FAt K mg "are_stripes" s_are_stripes := HD.fat X G c 38 (d := HD.d_are_stripes) rfl rfl rfl
  have D_are_stripes := ok_are_stripes (P := P) (w := w) (base := base) T F_are_stripes D_is_stripe_row
  have F_need_stripe_row : FAt K mg "need_stripe_row" s_need_stripe_row := HD.fat X G c 39 (d := HD.d_need_stripe_row) rfl rfl rfl
  have D_need_stripe_row := ok_need_stripe_row (P := P) (w := w) (base := base) T F_need_stripe_row D_are_stripes
  have F_judge_meeting : FAt K mg "judge_meeting" s_judge_meeting := HD.fat X G c 40 (d := HD.d_judge_meeting) rfl rfl rfl
  have D_judge_meeting := ok_judge_meeting (P := P) (w := w) (base := base) T F_judge_meeting D_cells_on D_bar_among D_need_stripe_row
  have F_do_meet : FAt K mg "do_meet" s_do_meet := HD.fat X G c 41 (d := HD.d_do_meet) rfl rfl rfl
  have D_do_meet := ok_do_meet (P := P) (w := w) (base := base) T F_do_meet D_cells_on D_need_stripe_row
  have F__law_deck : FAt K mg "_law_deck" s__law_deck := HD.fat X G c 42 (d := HD.d__law_deck) rfl rfl rfl
  have D__law_deck := ok__law_deck (P := P) (w := w) (base := base) T F__law_deck
  have F__law_draw : FAt K mg "_law_draw" s__law_draw := HD.fat X G c 43 (d := HD.d__law_draw) rfl rfl rfl
  have D__law_draw := ok__law_draw (P := P) (w := w) (base := base) T F__law_draw
  have F__law_pick : FAt K mg "_law_pick" s__law_pick := HD.fat X G c 44 (d := HD.d__law_pick) rfl rfl rfl
  have D__law_pick := ok__law_pick (P := P) (w := w) (base := base) T F__law_pick D__law_draw
  have F__law_wide : FAt K mg "_law_wide" s__law_wide := HD.fat X G c 45 (d := HD.d__law_wide) rfl rfl rfl
  have D__law_wide := ok__law_wide (P := P) (w := w) (base := base) T F__law_wide D__law_draw
  have F__law_common : FAt K mg "_law_common" s__law_common := HD.fat X G c 46 (d := HD.d__law_common) rfl rfl rfl
  have D__law_common := ok__law_common (P := P) (w := w) (base := base) T F__law_common
  have F__law_inverse : FAt K mg "_law_inverse" s__law_inverse := HD.fat X G c 47 (d := HD.d__law_inverse) rfl rfl rfl
  have D__law_inverse := ok__law_inverse (P := P) (w := w) (base := base) T F__law_inverse
  have F__law_part : FAt K mg "_law_part" s__law_part := HD.fat X G c 48 (d := HD.d__law_part) rfl rfl rfl
  have D__law_part := ok__law_part (P := P) (w := w) (base := base) T F__law_part
  have F__law_period : FAt K mg "_law_period" s__law_period := HD.fat X G c 49 (d := HD.d__law_period) rfl rfl rfl
  have D__law_period := ok__law_period (P := P) (w := w) (base := base) T F__law_period D__law_draw D__law_pick
  have F__law_unit : FAt K mg "_law_unit" s__law_unit := HD.fat X G c 50 (d := HD.d__law_unit) rfl rfl rfl
  have D__law_unit := ok__law_unit (P := P) (w := w) (base := base) T F__law_unit D__law_draw D__law_wide
  have F__law_power : FAt K mg "_law_power" s__law_power := HD.fat X G c 51 (d := HD.d__law_power) rfl rfl rfl
  have D__law_power := ok__law_power (P := P) (w := w) (base := base) T F__law_power D__law_draw D__law_pick
  have F__law_local : FAt K mg "_law_local" s__law_local := HD.fat X G c 52 (d := HD.d__law_local) rfl rfl rfl
  have D__law_local := ok__law_local (P := P) (w := w) (base := base) T F__law_local D__law_draw D__law_pick D__law_wide D__law_unit D__law_power
  have F__law_put : FAt K mg "_law_put" s__law_put := HD.fat X G c 53 (d := HD.d__law_put) rfl rfl rfl
  have D__law_put := ok__law_put (P := P) (w := w) (base := base) T F__law_put D__law_inverse
  have F__law_fraction : FAt K mg "_law_fraction" s__law_fraction := HD.fat X G c 55 (d := HD.d__law_fraction) rfl rfl rfl
  have D__law_fraction := ok__law_fraction (P := P) (w := w) (base := base) T F__law_fraction D__law_common
  have F__law_pair : FAt K mg "_law_pair" s__law_pair := HD.fat X G c 54 (d := HD.d__law_pair) rfl rfl rfl
  have D__law_pair := ok__law_pair (P := P) (w := w) (base := base) T F__law_pair D__law_draw D__law_period D__law_part D__law_power D__law_local D__law_put D__law_fraction
  have F__law_otherwise : FAt K mg "_law_otherwise" s__law_otherwise := HD.fat X G c 56 (d := HD.d__law_otherwise) rfl rfl rfl
  have D__law_otherwise := ok__law_otherwise (P := P) (w := w) (base := base) T F__law_otherwise D__law_common D__law_wide
  have F__law_are_integers : FAt K mg "_law_are_integers" s__law_are_integers := HD.fat X G c 57 (d := HD.d__law_are_integers) rfl rfl rfl
  have D__law_are_integers := ok__law_are_integers (P := P) (w := w) (base := base) T F__law_are_integers
  have F__law_is_meeting : FAt K mg "_law_is_meeting" s__law_is_meeting := HD.fat X G c 58 (d := HD.d__law_is_meeting) rfl rfl rfl
  have D__law_is_meeting := ok__law_is_meeting (P := P) (w := w) (base := base) T F__law_is_meeting D__law_are_integers
  exact ⟨D__law_deck, D__law_draw, D__law_pick, D__law_wide, D__law_pair, D__law_otherwise, D__law_fraction, D__law_is_meeting, D_share_of_both, kk_share_of_both T F_share_of_both D_need_stripes D_share, D_mean, kk_mean T F_mean D_need_heap D_sum_of,
    D_likeness, kk_likeness T F_likeness D_need_two D_is_cell_of D_joint_breadth D_product_at D_mean_of_product, D_do_meet, kk_do_meet T F_do_meet D_cells_on D_need_stripe_row, D_judge_meeting, kk_judge_meeting T F_judge_meeting D_cells_on D_bar_among D_need_stripe_row⟩
theorem law_fun (X : K.In h) (G : h.Ns mainGlobals mg) (c : HD.SaysX K) : ∃ f fd, FunD K "law" "law" (defArgs s_law) (defBody s_law) (defScope s_law) [] [] f fd ∧ mg "law" = some (.ref f) := HD.fat X G c 59 (d := HD.d_law) rfl rfl rfl
end
end SP
set_option maxHeartbeats 0 in
theorem PySem.Challenge.cw_slantpanes_k69_whole_far_shares_and_meet_holds : PySem.Challenge.rw_slantpanes_k69_whole_far_shares_and_meet.Holds := by
  open PySem PySem.W PySem.Calls PyProof.Rows in
  w_on; o_law
  refine HandSHeadRun.head_imp (r := HD.R) (q := HD.qv) (H := HD.hk) (ob := HD.ob) (M := 20000) (loose := HD.names) (d := HandSHeadRun.topDef HD.R.prog 81) (kwd := []) HD.ob_eq
    HD.run (by kernel_rfl) (by kernel_rfl) (by kernel_rfl) (by rfl) (by first | assumption | decide +kernel) (by decide +kernel) ⟨rfl, rfl, rfl, rfl, rfl, by decide +kernel⟩ ?hw ?hc
  case hw => w_witness2
  case hc =>
    refine Att.attach_call (n := 63) rfl (by kernel_rfl) fun w s₀ s₁ mg mb fa o pm cd doc a vs ns G Y ho hd hcd hmg hobj hints hlen hg => ?_
    obtain ⟨K, KX, c⟩ := Y
    obtain ⟨f, fd, F, hf⟩ := SP.law_fun KX G.T.g c
    have e1 : (HandSHeadRun.topDef HD.R.prog 81).name = ("law" : PySem.Str) := by kernel_rfl
    rw [e1] at hmg
    have e2 := hmg.symm.trans hf
    cases e2
    exact SP.law_at (HD.txt KX G.T.g c) (fun base => SP.all_defs KX G.T.g c _ w base) F KX G.T.g G.T.b G.T.builtins G.T.nolimit hg hobj hints hlen ⟨rfl, by decide, by decide⟩
