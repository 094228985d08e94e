import PyProof.Rows.All
import Wide.All
import OpenK.AllK
import Wide.FinOn
import HandS.ForMost
import PySem.Challenge.RW_selfprint_k32_whole_steps_made
import KE.KStateDown
import Lean
import HandS.ForExc
import HandS.Defaults
import HandS.Head0
import HandS.Head1
import HandS.Head2
import HandS.HeadEnd
import HandS.HeadHook1
import HandS.HeadHook2
import HandS.HeadHook3
import HandS.Walk
import HandS.Style
import HandS.IsInst
import HandS.TupAny
import HandS.Conv
import PyProof.P3Eq
import PyProof.EqLayable
import KE.GoesEnum
import HandS.ListItems
import KE.KDictZip
import HandS.Sort
import HandS.TryOnly
import HandS.ExcOwn
import HandS.Deep
import HandS.EndBits
import HandS.RaiseMore
import PyProof.FitsInt
import PyProof.ReprRoads
set_option Elab.async false
set_option linter.all false
set_option maxRecDepth 100000

namespace K32
open PySem L2
/-- the i-th statement of the top -/
def top (i : Nat) : Stmt := PySem.Challenge.pw_selfprint_k32_whole_steps_made.main.body.getD i (.Pass ⟨0, 0, 0, 0⟩)
abbrev s_is_integer : Stmt := top 11
abbrev s_is_count : Stmt := top 12
abbrev s_is_list : Stmt := top 13
abbrev s_want_at_most : Stmt := top 14
abbrev s_is_leaf : Stmt := top 24
abbrev s_is_letter_word : Stmt := top 25
abbrev s_is_letter : Stmt := top 26
abbrev s_is_branch : Stmt := top 27
abbrev s_is_kind : Stmt := top 28
abbrev s_is_node : Stmt := top 37
abbrev s_are_tree : Stmt := top 38
abbrev s_is_term : Stmt := top 39
abbrev s_want_position : Stmt := top 40
abbrev s_ends_of : Stmt := top 41
abbrev s_binders_around : Stmt := top 42
abbrev s_lifted_nodes : Stmt := top 43
abbrev s_nodes_put : Stmt := top 44
abbrev s_row_of : Stmt := top 47
abbrev s_kind_in : Stmt := top 48
abbrev s_kind_of_leaf : Stmt := top 49
abbrev s_kind_of_part : Stmt := top 50
abbrev s_kind_of_call : Stmt := top 51
abbrev s_kind_of_turns : Stmt := top 52
abbrev s_kind_of_few : Stmt := top 53
abbrev s_kind_by : Stmt := top 54
abbrev s_bound_kind : Stmt := top 55
abbrev s_next_row : Stmt := top 57
abbrev s_finished : Stmt := top 58
abbrev s_kinds_of : Stmt := top 59
abbrev s_fitting_kinds : Stmt := top 60
abbrev s_is_program : Stmt := top 61
abbrev s_want_program : Stmt := top 62
abbrev s_program_kind : Stmt := top 63
abbrev s_held_marks : Stmt := top 68
abbrev s_is_rule_at : Stmt := top 69
abbrev s_rules_at : Stmt := top 70
abbrev s_by_turns : Stmt := top 71
abbrev s_by_which : Stmt := top 72
abbrev s_by_long : Stmt := top 73
abbrev s_by_word : Stmt := top 74
abbrev s_after_step : Stmt := top 75
abbrev s_is_first_at : Stmt := top 76
abbrev s_stepped : Stmt := top 77
abbrev sL_pot : Stmt := top 79
abbrev sL_draw : Stmt := top 80
abbrev sL_pick : Stmt := top 81
abbrev sL_binds : Stmt := top 82
abbrev sL_tree : Stmt := top 83
abbrev sL_flat : Stmt := top 84
abbrev sL_lifted : Stmt := top 85
abbrev sL_put : Stmt := top 86
abbrev sL_kind : Stmt := top 87
abbrev sL_bound : Stmt := top 88
abbrev sL_plain_rules : Stmt := top 89
abbrev sL_look : Stmt := top 90
abbrev sL_steps : Stmt := top 91
abbrev sL_long : Stmt := top 92
abbrev sL_made : Stmt := top 93
abbrev sL_stepped_in : Stmt := top 94
abbrev sL_stepped : Stmt := top 95
abbrev sL_drawn_kind : Stmt := top 96
abbrev sL_ways : Stmt := top 97
abbrev sL_calls : Stmt := top 98
abbrev sL_head : Stmt := top 99
abbrev sL_pair : Stmt := top 100
abbrev sL_row : Stmt := top 101
abbrev sL_around : Stmt := top 102
abbrev sL_two : Stmt := top 103
abbrev sL_is_made : Stmt := top 104
abbrev sL_is_refused_right : Stmt := top 105
abbrev sL_right : Stmt := top 106
abbrev s_law : Stmt := top 107
abbrev s_Frame_init : Stmt := inClass (top 56) 0
end K32

set_option maxRecDepth 100000
set_option maxHeartbeats 0
namespace K32
open PySem PySem.Spec PyProof.Rows L2

def loose0 : List PySem.Str := ["__name__", "TermError", "StateError", "LimitError", "InvalidProgram", "InvalidPosition", "InvalidRule", "NoKind", "NoStep", "TooMany", "Frame", "LETTER", "TELLING", "PAIR", "SUM", "FUN", "MOST_LETTER", "MOST_SIGNS", "MOST_DEEP", "NAME", "TOLD", "MOST_NODES", "MOST_OUT", "MOST_TOLD", "BINDS", "WITH_KIND", "NUMBER", "RULES", "WANTED", "OPENED"]
def loose1 : List PySem.Str := ["is_integer", "is_count", "is_list", "want_at_most", "is_leaf", "is_letter_word", "is_letter", "is_branch", "is_kind", "is_node", "are_tree", "is_term", "want_position", "ends_of", "binders_around", "lifted_nodes", "nodes_put", "row_of", "kind_in", "kind_of_leaf", "kind_of_part", "kind_of_call", "kind_of_turns", "kind_of_few", "kind_by", "bound_kind", "next_row", "finished", "kinds_of", "fitting_kinds"]
def loose2 : List PySem.Str := ["is_program", "want_program", "program_kind", "held_marks", "is_rule_at", "rules_at", "by_turns", "by_which", "by_long", "by_word", "after_step", "is_first_at", "stepped", "_law_pot", "_law_draw", "_law_pick", "_law_binds", "_law_tree", "_law_flat", "_law_lifted", "_law_put", "_law_kind", "_law_bound", "_law_plain_rules", "_law_look", "_law_steps", "_law_long", "_law_made", "_law_stepped_in", "_law_stepped"]
def loose3 : List PySem.Str := ["_law_drawn_kind", "_law_ways", "_law_calls", "_law_head", "_law_pair", "_law_row", "_law_around", "_law_two", "_law_is_made", "_law_is_refused_right", "_law_right"]
def loose : List PySem.Str := loose0 ++ loose1 ++ loose2 ++ loose3
def dF (x : Str) (st : Stmt) : He.DefD := ⟨(x, none), x, x, defArgs st, defBody st, defScope st, [], []⟩
def fns0 : List He.DefD := [dF "is_integer" s_is_integer, dF "is_count" s_is_count, dF "is_list" s_is_list, dF "want_at_most" s_want_at_most, dF "is_leaf" s_is_leaf, dF "is_letter_word" s_is_letter_word, dF "is_letter" s_is_letter, dF "is_branch" s_is_branch, dF "is_kind" s_is_kind, dF "is_node" s_is_node, dF "are_tree" s_are_tree, dF "is_term" s_is_term, dF "want_position" s_want_position, dF "ends_of" s_ends_of, dF "binders_around" s_binders_around, dF "lifted_nodes" s_lifted_nodes, dF "nodes_put" s_nodes_put, dF "row_of" s_row_of, dF "kind_in" s_kind_in, dF "kind_of_leaf" s_kind_of_leaf]
def fns1 : List He.DefD := [dF "kind_of_part" s_kind_of_part, dF "kind_of_call" s_kind_of_call, dF "kind_of_turns" s_kind_of_turns, dF "kind_of_few" s_kind_of_few, dF "kind_by" s_kind_by, dF "bound_kind" s_bound_kind, dF "next_row" s_next_row, dF "finished" s_finished, dF "kinds_of" s_kinds_of, dF "fitting_kinds" s_fitting_kinds, dF "is_program" s_is_program, dF "want_program" s_want_program, dF "program_kind" s_program_kind, dF "held_marks" s_held_marks, dF "is_rule_at" s_is_rule_at, dF "rules_at" s_rules_at, dF "by_turns" s_by_turns, dF "by_which" s_by_which, dF "by_long" s_by_long, dF "by_word" s_by_word]
def fns2 : List He.DefD := [dF "after_step" s_after_step, dF "is_first_at" s_is_first_at, dF "stepped" s_stepped, dF "_law_pot" sL_pot, dF "_law_draw" sL_draw, dF "_law_pick" sL_pick, dF "_law_binds" sL_binds, dF "_law_tree" sL_tree, dF "_law_flat" sL_flat, dF "_law_lifted" sL_lifted, dF "_law_put" sL_put, dF "_law_kind" sL_kind, dF "_law_bound" sL_bound, dF "_law_plain_rules" sL_plain_rules, dF "_law_look" sL_look, dF "_law_steps" sL_steps, dF "_law_long" sL_long, dF "_law_made" sL_made, dF "_law_stepped_in" sL_stepped_in, dF "_law_stepped" sL_stepped]
def fns3 : List He.DefD := [dF "_law_drawn_kind" sL_drawn_kind, dF "_law_ways" sL_ways, dF "_law_calls" sL_calls, dF "_law_head" sL_head, dF "_law_pair" sL_pair, dF "_law_row" sL_row, dF "_law_around" sL_around, dF "_law_two" sL_two, dF "_law_is_made" sL_is_made, dF "_law_is_refused_right" sL_is_refused_right, dF "_law_right" sL_right, dF "law" s_law, ⟨("Frame", some "__init__"), "__init__", "Frame.__init__", defArgs s_Frame_init, defBody s_Frame_init, defScope s_Frame_init, [], []⟩]
def fns : List He.DefD := fns0 ++ fns1 ++ fns2 ++ fns3
def fa0 : List He.Fa := [.glo "is_integer", .glo "is_count", .glo "is_list", .glo "want_at_most", .glo "is_leaf", .glo "is_letter_word", .glo "is_letter", .glo "is_branch", .glo "is_kind", .glo "is_node", .glo "are_tree", .glo "is_term", .glo "want_position", .glo "ends_of", .glo "binders_around", .glo "lifted_nodes", .glo "nodes_put", .glo "row_of", .glo "kind_in", .glo "kind_of_leaf", .glo "kind_of_part", .glo "kind_of_call", .glo "kind_of_turns", .glo "kind_of_few", .glo "kind_by", .glo "bound_kind", .glo "next_row", .glo "finished", .glo "kinds_of", .glo "fitting_kinds"]
def fa1 : List He.Fa := [.glo "is_program", .glo "want_program", .glo "program_kind", .glo "held_marks", .glo "is_rule_at", .glo "rules_at", .glo "by_turns", .glo "by_which", .glo "by_long", .glo "by_word", .glo "after_step", .glo "is_first_at", .glo "stepped", .glo "_law_pot", .glo "_law_draw", .glo "_law_pick", .glo "_law_binds", .glo "_law_tree", .glo "_law_flat", .glo "_law_lifted", .glo "_law_put", .glo "_law_kind", .glo "_law_bound", .glo "_law_plain_rules", .glo "_law_look", .glo "_law_steps", .glo "_law_long", .glo "_law_made", .glo "_law_stepped_in", .glo "_law_stepped"]
def fa2 : List He.Fa := [.glo "_law_drawn_kind", .glo "_law_ways", .glo "_law_calls", .glo "_law_head", .glo "_law_pair", .glo "_law_row", .glo "_law_around", .glo "_law_two", .glo "_law_is_made", .glo "_law_is_refused_right", .glo "_law_right", .glo "law", .glo "TermError", .glo "StateError", .glo "LimitError", .glo "InvalidProgram", .glo "InvalidPosition", .glo "InvalidRule", .glo "NoKind", .glo "NoStep", .glo "TooMany", .glo "Frame", .free "isinstance", .free "int", .free "bool", .free "list", .free "tuple", .free "str", .free "len", .free "all"]
def fa3 : List He.Fa := [.free "range", .free "enumerate", .free "zip", .free "sorted", .free "min", .free "max", .free "abs", .free "sum", .free "divmod", .free "repr", .str "LETTER" "letter", .str "TELLING" "count", .str "PAIR" "pair", .str "SUM" "sum", .str "FUN" "fun", .int "MOST_LETTER" 5, .int "MOST_SIGNS" 60, .int "MOST_DEEP" 12, .str "NAME" "name", .str "TOLD" "told", .int "MOST_NODES" 300, .int "MOST_OUT" 299, .int "MOST_TOLD" 1000000, .glo "BINDS", .glo "WITH_KIND", .glo "NUMBER", .glo "RULES", .glo "WANTED", .glo "OPENED", .cls "Frame"]
def fa4 : List He.Fa := [.mkr "Frame", .noat "Frame" "own_position", .noat "Frame" "own_row", .noat "Frame" "own_some", .keep "NoStep", .keep "NoKind", .exm "NoStep" "NoStep" true]
def fas : List He.Fa := fa0 ++ fa1 ++ fa2 ++ fa3 ++ fa4
def tabs : List He.Tab := [((fun K => He.ga K "BINDS"), ["name", "told", "fun", "call", "both", "first", "second", "left", "right", "which", "next", "turns", "let"]), ((fun K => He.ga K "WANTED"), ["call", "first", "second", "which", "turns", "next"]), ((fun K => He.ga K "OPENED"), ["fun", "pair"])]
/-! what is looked at behind the top: the module's names, the defs and their code, the classes, the tables -/
def as0 : List Nat := [3, 167, 174, 181, 188, 195, 202, 209, 216, 223, 245, 252, 257, 264, 269, 274, 281, 288, 296, 303, 310, 317, 324, 331, 338, 345, 352, 380, 387, 392, 399, 406, 413, 420, 434, 441, 448, 455, 462, 469, 476, 483, 490, 497, 504, 511, 518, 525, 532, 539, 544, 549, 556, 563, 570, 575, 582, 589, 596, 603, 610, 617, 622, 627, 632, 639, 646, 653, 660, 667, 674, 681, 688, 166, 173, 180, 187, 194, 201, 208, 215, 222, 244, 251, 256, 263, 268, 273, 280, 287, 295, 302, 309, 316, 323, 330, 337, 344, 351, 379, 386, 391, 398, 405, 412, 419, 433, 440, 447, 454, 461, 468, 475, 482, 489, 496, 503, 510, 517, 524, 531, 538, 543, 548, 555, 562, 569, 574, 581, 588, 595, 602, 609, 616, 621, 626, 631, 638, 645, 652, 659, 666, 673, 680, 687, 224, 422, 429, 238, 289, 421, 225, 226, 227, 228, 229, 230, 231, 232, 233, 234, 235, 236, 237, 423, 424, 425, 426, 427, 428, 24, 37, 50, 70, 89, 108, 127, 139, 158, 369, 23, 36, 49, 69, 88, 107, 126, 138, 157, 368, 366, 367, 370, 371, 353, 354, 355, 356, 357, 358, 359, 360, 361, 362, 363, 364, 365]
/-- a tuple of the written part, by its address -/
def tupA (K : PySem.W.Frag) (a : Addr) (vs : List V) : Bool := match K.lookup a with
  | some ⟨.type c, _, .seq its _, _⟩ => decide (c = "tuple") && (decide (its.size ≤ sizeLine) && He.relAll vs its.toList)
  | _ => false
theorem tupA_ok {K : PySem.W.Frag} {a : Addr} {vs : List V} (h : tupA K a vs = true) (H : Hp) : SqT K H a vs := by
  unfold tupA at h
  cases q : K.lookup a with
  | none => rw [q] at h; cases h
  | some o =>
    obtain ⟨oc, od, dt, osl⟩ := o
    rw [q] at h
    cases oc with
    | type c =>
      cases dt with
      | seq its n =>
        obtain ⟨h1, h2⟩ := He.ba (show (decide (c = "tuple") && (decide (its.size ≤ sizeLine) && He.relAll vs its.toList)) = true from h)
        obtain ⟨h3, h4⟩ := He.ba h2
        exact .inr ⟨_, its, n, q, congrArg Value.type (of_decide_eq_true h1), rfl, of_decide_eq_true h3, He.relAll_ok h4⟩
      | _ => cases h
    | _ => cases dt <;> cases h
/-- the table x's value at k: the address of a tuple of these -/
def tabV (K : PySem.W.Frag) (x k : Str) : Addr := match PySem.W.nsIn K (He.ga K x) k with
  | some (some (.ref a)) => a
  | _ => 0
def tabB (K : PySem.W.Frag) (x k : Str) (vs : List V) : Bool := decide (PySem.W.nsIn K (He.ga K x) k = some (some (.ref (tabV K x k)))) && tupA K (tabV K x k) vs
def tabS (K : PySem.W.Frag) (x k : Str) (v : Str) : Bool := match PySem.W.nsIn K (He.ga K x) k with
  | some (some (.str y _)) => decide (y = v)
  | _ => false
def xs0 : List (PySem.W.Frag → Bool) := [fun K => tabB K "BINDS" "name" [],
  fun K => tabB K "BINDS" "told" [],
  fun K => tabB K "BINDS" "fun" [V.int 1],
  fun K => tabB K "BINDS" "call" [V.int 0, V.int 0],
  fun K => tabB K "BINDS" "both" [V.int 0, V.int 0],
  fun K => tabB K "BINDS" "first" [V.int 0],
  fun K => tabB K "BINDS" "second" [V.int 0],
  fun K => tabB K "BINDS" "left" [V.int 0],
  fun K => tabB K "BINDS" "right" [V.int 0],
  fun K => tabB K "BINDS" "which" [V.int 0, V.int 1, V.int 1],
  fun K => tabB K "BINDS" "next" [V.int 0],
  fun K => tabB K "BINDS" "turns" [V.int 0, V.int 1, V.int 0],
  fun K => tabB K "BINDS" "let" [V.int 0, V.int 1],
  fun K => tupA K (He.ga K "WITH_KIND") [V.str "fun", V.str "left", V.str "right", V.str "turns"],
  fun K => tupA K (He.ga K "NUMBER") [V.str "count"],
  fun K => tupA K (He.ga K "RULES") [V.str "call", V.str "first", V.str "second", V.str "which", V.str "turns", V.str "next", V.str "let", V.str "long"],
  fun K => tabB K "WANTED" "call" [V.str "fun"],
  fun K => tabB K "WANTED" "first" [V.str "both"],
  fun K => tabB K "WANTED" "second" [V.str "both"],
  fun K => tabB K "WANTED" "which" [V.str "left", V.str "right"],
  fun K => tabB K "WANTED" "turns" [V.str "told"],
  fun K => tabB K "WANTED" "next" [V.str "told"],
  fun K => tabS K "OPENED" "fun" "fun",
  fun K => tabS K "OPENED" "pair" "both",
  fun K => PySem.W.excIn K (He.ga K "NoStep") [.type "RuntimeError", .type "Exception", .type "BaseException", .type "object"] "RuntimeError.__new__",
  fun K => decide (PySem.W.subIn K (.ref (He.ga K "NoStep")) (.type "BaseException") = some true),
  fun K => decide (PySem.W.typeIn K (.ref (He.ga K "NoStep")) = some (.type "type"))]
abbrev AlK : Type := He.AlT × Bool
def obsK (K : PySem.W.Frag) : AlK := (He.obsT fas fns tabs K, xs0.all fun f => f K)
def valK (w : World) : AlK := (He.valT fns tabs w, true)
def hk : PySem.W.Hook where
  α := AlK
  obs := fun s => obsK (He.frG s.heap.get? as0)
  val := valK
  says := fun w h => ∃ K : PySem.W.Frag, K.In h ∧ obsK K = valK w
  of := fun _ _ e => ⟨_, He.frG_in, e⟩
  keeps := fun _ _ _ ⟨K, hK, c⟩ k => ⟨K, PySem.W.Frag.In.keeps hK k, c⟩
abbrev R : PySem.W.OpenRow := PySem.W.OpenLaw.row PySem.Challenge.rw_selfprint_k32_whole_steps_made
def ob (s : PySem.W.SharedT) : AlK := obsK (He.frG (HandSHeadRun.getT s) as0)
theorem ob_eq (s : PySem.W.SharedT) : ob s = hk.obs s.abs := by
  have e : HandSHeadRun.getT s = s.abs.heap.get? := funext (HandSHeadRun.getT_eq s)
  show obsK (He.frG (HandSHeadRun.getT s) as0) = obsK (He.frG s.abs.heap.get? as0)
  rw [e]
end K32

set_option maxRecDepth 100000
set_option maxHeartbeats 0
namespace K32
open PySem PySem.Spec PyProof.Rows L2
theorem run0 (w : World) : HandSHeadRun.RunEq R (PySem.W.view R.prog [107]) hk ob 8000 loose (w.withFollow "special-get-raises" false) := by
  intro os
  kernel_rfl
theorem run1 (w : World) : HandSHeadRun.RunEq R (PySem.W.view R.prog [107]) hk ob 8000 loose (w.withFollow "special-get-raises" true) := by
  intro os
  kernel_rfl
theorem run (w : World) : HandSHeadRun.RunEq R (PySem.W.view R.prog [107]) hk ob 8000 loose w := PySem.W.byRow2 "special-get-raises" run0 run1 w
end K32

set_option maxRecDepth 100000
set_option maxHeartbeats 0
namespace K32
open PySem PySem.W PySem.Calls PyProof.Rows
theorem head_k32 (call : WalkO (view R.prog [107]) loose (XL (view R.prog [107]) []) hk.says R.toRowW (HandSHeadRun.topDef R.prog 107) [] fun f vs => PySem.call f vs) : R.Holds := by
  refine HandSHeadRun.head_any (r := R) (q := view R.prog [107]) (H := hk) (ob := ob) (M := 8000) (loose := loose) (d := HandSHeadRun.topDef R.prog 107) (kwd := []) ob_eq
    (by kernel_rfl) (fun s => by kernel_rfl) run (by kernel_rfl) (by kernel_rfl) (by kernel_rfl) (by rfl) (by first | assumption | decide +kernel) (by decide +kernel) ⟨rfl, rfl, rfl, rfl, rfl, by decide +kernel⟩ ?hw call
  case hw => w_witness2
theorem law_name : (HandSHeadRun.topDef R.prog 107).name = ("law" : PySem.Str) := by kernel_rfl
theorem law_bare : (HandSHeadRun.topDef R.prog 107).params.defaults = [] := by kernel_rfl
end K32

set_option maxRecDepth 100000
set_option maxHeartbeats 4000000
namespace K32
open PySem L2

/-! ## 1. Data of the heap: a value read as a datum; lists are tracked ones -/
mutual
inductive Da (K : PySem.W.Frag) (H : Hp) : V → PyData → Prop
  | non : Da K H .non .none
  | bl (b : Bool) : Da K H (.bl b) (.bool b)
  | int (i : Int) : Da K H (.int i) (.int i)
  | str (x : Str) : Da K H (.str x) (.str x)
  | lst {a : Addr} {xs : List V} {ds : List PyData} : H a = some (.lst xs) → DaAll K H xs ds → Da K H (.ref a) (.list ds)
  | tup {a : Addr} {xs : List V} {ds : List PyData} : SqT K H a xs → DaAll K H xs ds → Da K H (.ref a) (.tuple ds)
inductive DaAll (K : PySem.W.Frag) (H : Hp) : List V → List PyData → Prop
  | nil : DaAll K H [] []
  | cons {v : V} {vs : List V} {d : PyData} {ds : List PyData} : Da K H v d → DaAll K H vs ds → DaAll K H (v :: vs) (d :: ds)
end
section
variable {K : PySem.W.Frag} {H H' : Hp}
theorem sqt_mono (e : Same H H') {a : Addr} {xs : List V} (h : SqT K H a xs) : SqT K H' a xs := by
  rcases h with (h | ⟨o, h⟩) | h
  · exact .inl (.inl (e _ _ h))
  · exact .inl (.inr ⟨o, e _ _ h⟩)
  · exact .inr h
mutual
theorem Da.mono (e : Same H H') : ∀ {d : PyData} {v : V}, Da K H v d → Da K H' v d
  | .none, _, h => by cases h; exact .non
  | .bool _, _, h => by cases h; exact .bl _
  | .int _, _, h => by cases h; exact .int _
  | .str _, _, h => by cases h; exact .str _
  | .list ds, _, h => by
    cases h with
    | lst h1 h2 => exact .lst (e _ _ h1) (DaAll.mono e h2)
  | .tuple ds, _, h => by
    cases h with
    | tup h1 h2 => exact .tup (sqt_mono e h1) (DaAll.mono e h2)
  | .dict _, _, h => by cases h
theorem DaAll.mono (e : Same H H') : ∀ {ds : List PyData} {vs : List V}, DaAll K H vs ds → DaAll K H' vs ds
  | [], _, h => by cases h; exact .nil
  | _ :: _, _, h => by
    cases h with
    | cons h1 h2 => exact .cons (Da.mono e h1) (DaAll.mono e h2)
end
mutual
theorem Da.dp : ∀ {d : PyData} {v : V}, Da K H v d → Dp K H v d
  | .none, _, h => by cases h; exact .non
  | .bool _, _, h => by cases h; exact .bl _
  | .int _, _, h => by cases h; exact .int _
  | .str _, _, h => by cases h; exact .str _
  | .list ds, _, h => by
    cases h with
    | lst h1 h2 => exact .lst (SqL.of h1) (DaAll.dp h2)
  | .tuple ds, _, h => by
    cases h with
    | tup h1 h2 => exact .tup h1 (DaAll.dp h2)
  | .dict _, _, h => by cases h
theorem DaAll.dp : ∀ {ds : List PyData} {vs : List V}, DaAll K H vs ds → DpAll K H vs ds
  | [], _, h => by cases h; exact .nil
  | _ :: _, _, h => by
    cases h with
    | cons h1 h2 => exact .cons (Da.dp h1) (DaAll.dp h2)
end
theorem DaAll.length : ∀ {ds : List PyData} {vs : List V}, DaAll K H vs ds → vs.length = ds.length
  | [], _, h => by cases h; rfl
  | _ :: _, _, h => by
    cases h with
    | cons h1 h2 => rw [List.length_cons, List.length_cons, DaAll.length h2]
theorem DaAll.get : ∀ {ds : List PyData} {vs : List V} {i : Nat} {d : PyData}, DaAll K H vs ds → ds[i]? = some d → ∃ v, vs[i]? = some v ∧ Da K H v d
  | [], _, _, _, h, e => by simp at e
  | _ :: _, _, 0, d, h, e => by
    cases h with
    | cons h1 h2 => simp at e; subst e; exact ⟨_, rfl, h1⟩
  | _ :: _, _, i + 1, d, h, e => by
    cases h with
    | cons h1 h2 =>
      obtain ⟨v, e1, e2⟩ := DaAll.get (i := i) (d := d) h2 (by simpa using e)
      exact ⟨v, by simpa using e1, e2⟩
theorem DaAll.of_get : ∀ {ds : List PyData} {vs : List V} {i : Nat} {v : V}, DaAll K H vs ds → vs[i]? = some v → ∃ d, ds[i]? = some d ∧ Da K H v d
  | [], _, _, _, h, e => by cases h; simp at e
  | _ :: _, _, 0, d, h, e => by
    cases h with
    | cons h1 h2 => simp at e; subst e; exact ⟨_, rfl, h1⟩
  | _ :: _, _, i + 1, d, h, e => by
    cases h with
    | cons h1 h2 =>
      obtain ⟨v, e1, e2⟩ := DaAll.of_get (i := i) (v := d) h2 (by simpa using e)
      exact ⟨v, by simpa using e1, e2⟩
theorem DaAll.append : ∀ {ds es : List PyData} {vs us : List V}, DaAll K H vs ds → DaAll K H us es → DaAll K H (vs ++ us) (ds ++ es)
  | [], _, _, _, h, h' => by cases h; exact h'
  | _ :: _, _, _, _, h, h' => by
    cases h with
    | cons h1 h2 => exact .cons h1 (DaAll.append h2 h')
theorem DaAll.take : ∀ {ds : List PyData} {vs : List V} (n : Nat), DaAll K H vs ds → DaAll K H (vs.take n) (ds.take n)
  | _, _, 0, _ => by rw [List.take_zero, List.take_zero]; exact .nil
  | [], _, _ + 1, h => by cases h; exact .nil
  | _ :: _, _, n + 1, h => by
    cases h with
    | cons h1 h2 => exact .cons h1 (DaAll.take n h2)
theorem DaAll.drop : ∀ {ds : List PyData} {vs : List V} (n : Nat), DaAll K H vs ds → DaAll K H (vs.drop n) (ds.drop n)
  | _, _, 0, h => h
  | [], _, _ + 1, h => by cases h; exact .nil
  | _ :: _, _, n + 1, h => by
    cases h with
    | cons h1 h2 => exact DaAll.drop n h2
theorem DaAll.reverse : ∀ {ds : List PyData} {vs : List V}, DaAll K H vs ds → DaAll K H vs.reverse ds.reverse
  | [], _, h => by cases h; exact .nil
  | _ :: _, _, h => by
    cases h with
    | cons h1 h2 => rw [List.reverse_cons, List.reverse_cons]; exact DaAll.append (DaAll.reverse h2) (.cons h1 .nil)
theorem DaAll.set : ∀ {ds : List PyData} {vs : List V} (i : Nat) {v : V} {d : PyData}, DaAll K H vs ds → Da K H v d → DaAll K H (vs.set i v) (ds.set i d)
  | [], _, _, _, _, h, _ => by cases h; exact .nil
  | _ :: _, _, 0, _, _, h, q => by
    cases h with
    | cons h1 h2 => exact .cons q h2
  | _ :: _, _, i + 1, _, _, h, q => by
    cases h with
    | cons h1 h2 => exact .cons h1 (DaAll.set i h2 q)
theorem DaAll.perm {vs us : List V} (p : us.Perm vs) : ∀ {ds : List PyData}, DaAll K H vs ds → ∃ es, es.Perm ds ∧ DaAll K H us es := by
  induction p with
  | nil => intro ds h; cases h; exact ⟨[], .nil, .nil⟩
  | cons x _ ih =>
    intro ds h
    cases h with
    | cons h1 h2 => obtain ⟨es, q1, q2⟩ := ih h2; exact ⟨_ :: es, q1.cons _, .cons h1 q2⟩
  | swap x y l =>
    intro ds h
    cases h with
    | cons h1 h2 =>
      cases h2 with
      | cons h3 h4 => exact ⟨_, .swap _ _ _, .cons h3 (.cons h1 h4)⟩
  | trans _ _ ih1 ih2 =>
    intro ds h
    obtain ⟨es, q1, q2⟩ := ih2 h
    obtain ⟨fs, q3, q4⟩ := ih1 q2
    exact ⟨fs, q3.trans q1, q4⟩
end

/-! ## 2. What a slot, an item may be known as; what an own object holds -/
inductive Lo where
  | no
  | d (d : PyData)
  | v (v : V)
def LoOk (K : PySem.W.Frag) (B : Hp) : Option V → Lo → Prop
  | _, .no => True
  | some v, .d d => Da K B v d
  | some v, .v u => v = u
  | none, .d _ => False
  | none, .v _ => False
section
variable {K : PySem.W.Frag} {B B' : Hp}
theorem LoOk.mono (e : Same B B') {v : Option V} {l : Lo} (h : LoOk K B v l) : LoOk K B' v l := by
  cases l with
  | no => cases v <;> trivial
  | d d => cases v with
    | none => exact h
    | some v => exact Da.mono e (show Da K B v d from h)
  | v u => cases v with
    | none => exact h
    | some v => exact h
end
abbrev Los (K : PySem.W.Frag) (B : Hp) : List V → List Lo → Prop := Paired fun v l => LoOk K B (some v) l
abbrev Sls (K : PySem.W.Frag) (B : Hp) : L2.St → List Lo → Prop := Paired (LoOk K B)
theorem Paired.imp {α β : Type} {F G : α → β → Prop} (f : ∀ a b, F a b → G a b) : ∀ {l₁ : List α} {l₂ : List β}, Paired F l₁ l₂ → Paired G l₁ l₂
  | _, _, .nil => .nil
  | _, _, .cons r t => .cons (f _ _ r) (Paired.imp f t)
theorem Paired.at2 {α β : Type} {F : α → β → Prop} : ∀ {l₁ : List α} {l₂ : List β} {i : Nat} {b : β}, Paired F l₁ l₂ → l₂[i]? = some b → ∃ a, l₁[i]? = some a ∧ F a b
  | _, _, _, _, .nil, e => by simp at e
  | _, _, 0, _, .cons r _, e => by simp at e; subst e; exact ⟨_, rfl, r⟩
  | _, _, i + 1, b, .cons _ t, e => by
    obtain ⟨a, h1, h2⟩ := Paired.at2 (i := i) (b := b) t (by simpa using e)
    exact ⟨a, by simpa using h1, h2⟩
theorem Paired.at1 {α β : Type} {F : α → β → Prop} : ∀ {l₁ : List α} {l₂ : List β} {i : Nat} {a : α}, Paired F l₁ l₂ → l₁[i]? = some a → ∃ b, l₂[i]? = some b ∧ F a b
  | _, _, _, _, .nil, e => by simp at e
  | _, _, 0, _, .cons r _, e => by simp at e; subst e; exact ⟨_, rfl, r⟩
  | _, _, i + 1, a, .cons _ t, e => by
    obtain ⟨b, h1, h2⟩ := Paired.at1 (i := i) (a := a) t (by simpa using e)
    exact ⟨b, by simpa using h1, h2⟩
theorem Paired.set2 {α β : Type} {F : α → β → Prop} {a : α} {b : β} (r : F a b) : ∀ {l₁ : List α} {l₂ : List β} (i : Nat), Paired F l₁ l₂ → Paired F (l₁.set i a) (l₂.set i b)
  | _, _, _, .nil => .nil
  | _, _, 0, .cons _ t => .cons r t
  | _, _, i + 1, .cons q t => .cons q (Paired.set2 r i t)
theorem Paired.app {α β : Type} {F : α → β → Prop} : ∀ {l₁ m₁ : List α} {l₂ m₂ : List β}, Paired F l₁ l₂ → Paired F m₁ m₂ → Paired F (l₁ ++ m₁) (l₂ ++ m₂)
  | _, _, _, _, .nil, s => s
  | _, _, _, _, .cons r t, s => .cons r (Paired.app t s)
theorem Paired.len {α β : Type} {F : α → β → Prop} : ∀ {l₁ : List α} {l₂ : List β}, Paired F l₁ l₂ → l₁.length = l₂.length
  | _, _, .nil => rfl
  | _, _, .cons _ t => by rw [List.length_cons, List.length_cons, Paired.len t]
theorem Los.of_da {K : PySem.W.Frag} {B : Hp} : ∀ {ds : List PyData} {vs : List V}, DaAll K B vs ds → Los K B vs (ds.map .d)
  | [], _, h => by cases h; exact .nil
  | _ :: _, _, h => by
    cases h with
    | cons h1 h2 => exact .cons h1 (Los.of_da h2)
theorem Los.da {K : PySem.W.Frag} {B : Hp} : ∀ {ds : List PyData} {vs : List V}, Los K B vs (ds.map .d) → DaAll K B vs ds
  | [], _, h => by cases h; exact .nil
  | _ :: _, _, h => by
    cases h with
    | cons h1 h2 => exact .cons h1 (Los.da h2)

inductive Own where
  | lst (ls : List Lo)
  | pot
  | is (o : HO)
  | ins (C dx : Addr) (fs : List (Str × Lo))
def OwnOk (K : PySem.W.Frag) (B : Hp) : Own → HO → Prop
  | .lst ls, o => ∃ xs, o = .lst xs ∧ Los K B xs ls
  | .pot, o => ∃ a b : Int, o = .lst [.int a, .int b] ∧ 0 ≤ a ∧ a.natAbs < 2 ^ 1048600 ∧ 0 ≤ b ∧ b < 2147483648
  | .is u, o => o = u
  | .ins C dx fs, o => ∃ vs : List (Str × V), o = .ins C dx vs ∧ Paired (fun (p : Str × V) (q : Str × Lo) => p.1 = q.1 ∧ LoOk K B (some p.2) q.2) vs fs
theorem OwnOk.mono {K : PySem.W.Frag} {B B' : Hp} (e : Same B B') {w : Own} {o : HO} (h : OwnOk K B w o) : OwnOk K B' w o := by
  cases w with
  | lst ls => obtain ⟨xs, h1, h2⟩ := h; exact ⟨xs, h1, Paired.imp (fun _ _ q => LoOk.mono e q) h2⟩
  | pot => exact h
  | is u => exact h
  | ins C dx fs => obtain ⟨vs, h1, h2⟩ := h; exact ⟨vs, h1, Paired.imp (fun _ _ q => ⟨q.1, LoOk.mono e q.2⟩) h2⟩

/-! ## 3. How a base and a heap go on: B the base (what is read as data, never written), H the heap; xs may be written -/
structure Nx (xs : List Addr) (B H B' H' : Hp) : Prop where
  bb : Same B B'
  bh : Same B' H'
  out : ∀ a, a ∉ xs → B a = none → H a ≠ none → B' a = none
  hh : ∀ a o, a ∉ xs → H a = some o → H' a = some o
  hn : ∀ a, H a ≠ none → H' a ≠ none
section
variable {xs : List Addr} {B H B' H' B'' H'' : Hp}
theorem Nx.refl (h : Same B H) : Nx xs B H B H := ⟨Same.refl _, h, fun _ _ e _ => e, fun _ _ _ e => e, fun _ e => e⟩
theorem Nx.trans (a : Nx xs B H B' H') (b : Nx xs B' H' B'' H'') : Nx xs B H B'' H'' :=
  ⟨a.bb.trans b.bb, b.bh, fun x h0 h1 h2 => b.out x h0 (a.out x h0 h1 h2) (a.hn x h2), fun x o h1 h2 => b.hh x o h1 (a.hh x o h1 h2), fun x h => b.hn x (a.hn x h)⟩
theorem Nx.mono {ys : List Addr} (a : Nx xs B H B' H') (h : ∀ x ∈ xs, x ∈ ys) : Nx ys B H B' H' := ⟨a.bb, a.bh, fun x h0 => a.out x fun q => h0 (h x q), fun x o h1 h2 => a.hh x o (fun q => h1 (h x q)) h2, a.hn⟩
theorem Nx.same (a : Nx [] B H B' H') : Same H H' := fun x o e => a.hh x o (by simp) e
end

/-! ## 4. A situation -/
structure Og where
  B : Hp
  H : Hp
  xs : List Addr
  L : Hp
abbrev Owns := List (Addr × Own)
structure Sit (K : PySem.W.Frag) (O : Og) (B : Hp) (M : Owns) (ρ : List Lo) (σ : L2.St) (H : Hp) : Prop where
  nx : Nx O.xs O.B O.H B H
  lb : Same O.L B
  own : ∀ p ∈ M, B p.1 = none ∧ (∃ o, H p.1 = some o ∧ OwnOk K B p.2 o) ∧ (p.1 ∈ O.xs ∨ O.H p.1 = none)
  nd : (M.map (·.1)).Nodup
  sl : Sls K B σ ρ
section
variable {K : PySem.W.Frag} {O : Og} {B B' H H' : Hp} {M : Owns} {ρ : List Lo} {σ : L2.St}
theorem Sit.bh (S : Sit K O B M ρ σ H) : Same B H := S.nx.bh
/-- behind something that leaves all objects as they stood -/
theorem Sit.step (S : Sit K O B M ρ σ H) (n : Nx [] B H B' H') : Sit K O B' M ρ σ H' where
  nx := S.nx.trans (n.mono fun _ h => by simp at h)
  lb := S.lb.trans n.bb
  own := fun p hp => by
    obtain ⟨h1, ⟨o, h2, h3⟩, h4⟩ := S.own p hp
    exact ⟨n.out _ (by simp) h1 (by rw [h2]; simp), ⟨o, n.same _ _ h2, h3.mono n.bb⟩, h4⟩
  nd := S.nd
  sl := Paired.imp (fun _ _ q => LoOk.mono n.bb q) S.sl
theorem Sit.slot (S : Sit K O B M ρ σ H) {v : V} {l : Lo} (i : Nat) (h : LoOk K B (some v) l) : Sit K O B M (ρ.set i l) (σ.set i (some v)) H := ⟨S.nx, S.lb, S.own, S.nd, Paired.set2 h i S.sl⟩
theorem Sit.fresh (S : Sit K O B M ρ σ H) {a : Addr} (h : H a = none) : O.H a = none := by
  cases e : O.H a with
  | none => rfl
  | some u => exact absurd h (S.nx.hn a (by rw [e]; simp))
/-- a new object, of its own -/
theorem Sit.new (S : Sit K O B M ρ σ H) {a : Addr} {o : HO} {w : Own} (h : H a = none) (q : OwnOk K B w o) : Sit K O B ((a, w) :: M) ρ σ (upd H a o) := by
  have hs : Same H (upd H a o) := fun b u e => by rw [upd_ne (ne_of_none e h)]; exact e
  have hB : B a = none := by
    cases e : B a with
    | none => rfl
    | some u => rw [S.bh _ _ e] at h; cases h
  have hO : O.H a = none := by
    cases e : O.H a with
    | none => rfl
    | some u => exact absurd h (S.nx.hn a (by rw [e]; simp))
  refine ⟨S.nx.trans ⟨Same.refl _, S.bh.trans hs, fun _ _ e _ => e, fun b u _ e => hs b u e, fun b e => ?_⟩, S.lb, fun p hp => ?_, ?_, S.sl⟩
  · cases q : H b with
    | none => exact absurd q e
    | some u => rw [hs _ _ q]; simp
  · rcases List.mem_cons.mp hp with rfl | hp
    · exact ⟨hB, ⟨o, upd_same, q⟩, .inr hO⟩
    · obtain ⟨h1, ⟨u, h2, h3⟩, h4⟩ := S.own p hp
      exact ⟨h1, ⟨u, hs _ _ h2, h3⟩, h4⟩
  · show (a :: M.map (·.1)).Nodup
    refine List.nodup_cons.mpr ⟨fun hm => ?_, S.nd⟩
    obtain ⟨p, hp, e⟩ := List.mem_map.mp hm
    obtain ⟨_, ⟨u, h2, _⟩, _⟩ := S.own p hp
    rw [e, h] at h2
    cases h2
/-- a new object that is data at once -/
theorem Sit.newD (S : Sit K O B M ρ σ H) {a : Addr} {o : HO} (h : H a = none) : Sit K O (upd B a o) M ρ σ (upd H a o) := by
  have hB : B a = none := by
    cases e : B a with
    | none => rfl
    | some u => rw [S.bh _ _ e] at h; cases h
  have hs : Same H (upd H a o) := fun b u e => by rw [upd_ne (ne_of_none e h)]; exact e
  refine S.step ⟨fun b u e => by rw [upd_ne (ne_of_none e hB)]; exact e, fun b u e => ?_, fun b _ e1 e2 => ?_, fun b u _ e => hs b u e, fun b e => ?_⟩
  · by_cases hb : b = a
    · subst hb; rw [upd_same] at e ⊢; exact e
    · rw [upd_ne hb] at e ⊢; exact S.bh _ _ e
  · by_cases hb : b = a
    · subst hb; exact absurd h e2
    · rw [upd_ne hb]; exact e1
  · cases q : H b with
    | none => exact absurd q e
    | some u => rw [hs _ _ q]; simp
theorem nd_at {α : Type} : ∀ {l : List α} {i j : Nat} {x : α}, l.Nodup → l[i]? = some x → l[j]? = some x → i = j
  | [], _, _, _, _, e, _ => by simp at e
  | y :: l, 0, 0, x, _, _, _ => rfl
  | y :: l, 0, j + 1, x, h, e, e' => by
    simp at e e'
    subst e
    exact absurd (List.mem_of_getElem? e') (List.nodup_cons.mp h).1
  | y :: l, i + 1, 0, x, h, e, e' => by
    simp at e e'
    subst e'
    exact absurd (List.mem_of_getElem? e) (List.nodup_cons.mp h).1
  | y :: l, i + 1, j + 1, x, h, e, e' => by
    have := nd_at (List.nodup_cons.mp h).2 (show l[i]? = some x by simpa using e) (show l[j]? = some x by simpa using e')
    omega
theorem set_self {α : Type} : ∀ {l : List α} {j : Nat} {x : α}, l[j]? = some x → l.set j x = l
  | [], _, _, e => by simp at e
  | y :: l, 0, x, e => by simp at e; subst e; rfl
  | y :: l, j + 1, x, e => by rw [List.set_cons_succ, set_self (show l[j]? = some x by simpa using e)]
/-- an own object becomes data: it is never written from here on -/
theorem Sit.freeze (S : Sit K O B M ρ σ H) (j : Nat) {a : Addr} {w : Own} {o : HO} (hj : M[j]? = some (a, w)) (ho : H a = some o) (hO : O.H a = none) : Sit K O (upd B a o) (M.eraseIdx j) ρ σ H := by
  have hb : Same B (upd B a o) := fun b u e => by
    by_cases q : b = a
    · subst q; rw [S.bh _ _ e] at ho; cases ho; exact upd_same
    · rw [upd_ne q]; exact e
  refine ⟨⟨S.nx.bb.trans hb, fun b u e => ?_, fun b e0 e1 e2 => ?_, S.nx.hh, S.nx.hn⟩, S.lb.trans hb, fun p hp => ?_, ?_, Paired.imp (fun _ _ q => LoOk.mono hb q) S.sl⟩
  · by_cases q : b = a
    · subst q; rw [upd_same] at e; cases e; exact ho
    · rw [upd_ne q] at e; exact S.bh _ _ e
  · by_cases q : b = a
    · subst q; exact absurd hO e2
    · rw [upd_ne q]; exact S.nx.out _ e0 e1 e2
  · obtain ⟨i, hi⟩ := List.getElem?_of_mem hp
    have hne : p.1 ≠ a := fun z => by
      rw [List.getElem?_eraseIdx] at hi
      split at hi
      · have := nd_at S.nd (show (M.map (·.1))[i]? = some a by rw [List.getElem?_map, hi, ← z]; rfl) (show (M.map (·.1))[j]? = some a by rw [List.getElem?_map, hj]; rfl)
        omega
      · have := nd_at S.nd (show (M.map (·.1))[i + 1]? = some a by rw [List.getElem?_map, hi, ← z]; rfl) (show (M.map (·.1))[j]? = some a by rw [List.getElem?_map, hj]; rfl)
        omega
    obtain ⟨h1, ⟨u, h2, h3⟩, h4⟩ := S.own p (List.mem_of_mem_eraseIdx hp)
    exact ⟨by rw [upd_ne hne]; exact h1, ⟨u, h2, h3.mono hb⟩, h4⟩
  · exact S.nd.sublist ((List.eraseIdx_sublist _ _).map _)
/-- an own object is written -/
theorem Sit.write (S : Sit K O B M ρ σ H) (j : Nat) {a : Addr} {w w' : Own} {o : HO} (hj : M[j]? = some (a, w)) (q : OwnOk K B w' o) : Sit K O B (M.set j (a, w')) ρ σ (upd H a o) := by
  obtain ⟨h1, ⟨u, h2, h3⟩, h4⟩ := S.own _ (List.mem_of_getElem? hj)
  have hB : ∀ b v, B b = some v → b ≠ a := fun b v e z => by subst z; rw [h1] at e; cases e
  refine ⟨⟨S.nx.bb, fun b v e => by rw [upd_ne (hB b v e)]; exact S.bh _ _ e, S.nx.out, fun b v hx e => ?_, fun b e => ?_⟩, S.lb, fun p hp => ?_, ?_, S.sl⟩
  · by_cases z : b = a
    · subst z
      rcases h4 with h4 | h4
      · exact absurd h4 hx
      · rw [h4] at e; cases e
    · rw [upd_ne z]; exact S.nx.hh b v hx e
  · by_cases z : b = a
    · subst z; rw [upd_same]; simp
    · rw [upd_ne z]; exact S.nx.hn b e
  · obtain ⟨i, hi⟩ := List.getElem?_of_mem hp
    by_cases e : j = i
    · subst e
      rw [List.getElem?_set_self (List.getElem?_eq_some_iff.mp hj).1] at hi
      cases hi
      exact ⟨h1, ⟨o, upd_same, q⟩, h4⟩
    · rw [List.getElem?_set_ne e] at hi
      have hne : p.1 ≠ a := fun z => e (nd_at S.nd (show (M.map (·.1))[j]? = some a by rw [List.getElem?_map, hj]; rfl) (show (M.map (·.1))[i]? = some a by rw [List.getElem?_map, hi, ← z]; rfl))
      obtain ⟨g1, ⟨v, g2, g3⟩, g4⟩ := S.own p (List.mem_of_getElem? hi)
      exact ⟨g1, ⟨v, by rw [upd_ne hne]; exact g2, g3⟩, g4⟩
  · have e : (M.set j (a, w')).map (·.1) = M.map (·.1) := by
      rw [List.map_set]
      exact set_self (by rw [List.getElem?_map, hj]; rfl)
    rw [e]
    exact S.nd
/-- behind something that may have written some own objects: all of M' is told anew -/
theorem Sit.stepX {xs : List Addr} {M' : Owns} (S : Sit K O B M ρ σ H) (n : Nx xs B H B' H') (hx : ∀ a ∈ xs, B a = none ∧ (a ∈ O.xs ∨ O.H a = none)) (nd' : (M'.map (·.1)).Nodup)
    (hM : ∀ p ∈ M', (p ∈ M ∧ p.1 ∉ xs) ∨ (B' p.1 = none ∧ (∃ o, H' p.1 = some o ∧ OwnOk K B' p.2 o) ∧ (p.1 ∈ O.xs ∨ O.H p.1 = none))) : Sit K O B' M' ρ σ H' where
  nx := by
    refine ⟨S.nx.bb.trans n.bb, n.bh, fun x g0 g1 g2 => ?_, fun b v hb e => ?_, fun x h => n.hn x (S.nx.hn x h)⟩
    · by_cases q : x ∈ xs
      · rcases (hx x q).2 with z | z
        · exact absurd z g0
        · exact absurd z g2
      · exact n.out x q (S.nx.out x g0 g1 g2) (S.nx.hn x g2)
    · by_cases q : b ∈ xs
      · rcases (hx b q).2 with z | z
        · exact absurd z hb
        · rw [z] at e; cases e
      · exact n.hh b v q (S.nx.hh b v hb e)
  lb := S.lb.trans n.bb
  own := fun p hp => by
    rcases hM p hp with ⟨h1, h2⟩ | h
    · obtain ⟨g1, ⟨v, g2, g3⟩, g4⟩ := S.own p h1
      exact ⟨n.out _ h2 g1 (by rw [g2]; simp), ⟨v, n.hh _ _ h2 g2, g3.mono n.bb⟩, g4⟩
    · exact h
  nd := nd'
  sl := Paired.imp (fun _ _ q => LoOk.mono n.bb q) S.sl
/-- .. the own object at a alone -/
theorem Sit.stepP (S : Sit K O B M ρ σ H) {a : Addr} {w : Own} {o' : HO} (hm : (a, w) ∈ M) (n : Nx [a] B H B' H') (hb : B' a = none) (h' : H' a = some o') (q : OwnOk K B' w o') : Sit K O B' M ρ σ H' := by
  obtain ⟨h1, _, h4⟩ := S.own _ hm
  refine S.stepX n (fun x hx => by simp at hx; subst hx; exact ⟨h1, h4⟩) S.nd fun p hp => ?_
  by_cases z : p.1 = a
  · right
    obtain ⟨i, hi⟩ := List.getElem?_of_mem hp
    obtain ⟨j, hj⟩ := List.getElem?_of_mem hm
    have e := nd_at S.nd (show (M.map (·.1))[i]? = some a by rw [List.getElem?_map, hi, ← z]; rfl) (show (M.map (·.1))[j]? = some a by rw [List.getElem?_map, hj]; rfl)
    subst e
    rw [hi] at hj
    cases hj
    exact ⟨hb, ⟨o', h', q⟩, h4⟩
  · exact .inl ⟨hp, by simpa using z⟩
end
end K32

set_option maxRecDepth 100000
set_option maxHeartbeats 4000000
namespace K32
open PySem L2

/-! ## 5. The weakest readings: every rule of the layer is used on these, one construct at a time -/
@[irreducible] def wE (X : Cx) (e : Expr) : TE := fun σ H Q => ∀ pins s, Inv X pins σ H s → wpAny (model X.prog X.w) X.A (eval e X.env) (EP X pins σ Q) X.xe s
@[irreducible] def wT (X : Cx) (e : Expr) : TT := fun σ H Q => ∀ pins s, Inv X pins σ H s → wpAny (model X.prog X.w) X.A (isTrue e X.env (eval e X.env)) (TP X pins σ Q) X.xe s
@[irreducible] def wW (X : Cx) (e : Expr) : TT := fun σ H Q => ∀ whole pins s, Inv X pins σ H s → wpAny (model X.prog X.w) X.A (isTrue e X.env whole) (TP X pins σ Q) X.xe s
@[irreducible] def wA (X : Cx) (es : List Expr) : TA := fun σ H Q => ∀ pos pins s, Inv X pins σ H s → wpAny (model X.prog X.w) X.A (spliced (backTo pos (starEach es X.env))) (AP X pins σ Q) X.xe s
@[irreducible] def wS (X : Cx) (st : Stmt) : TS := fun D σ H => ∀ pins s, Inv X pins σ H s → wpAny (model X.prog X.w) X.A (exec st X.env) (SP X pins D) X.xe s
@[irreducible] def wSs (X : Cx) (sts : List Stmt) : TS := fun D σ H => ∀ pins s, Inv X pins σ H s → wpAny (model X.prog X.w) X.A (execs sts X.env) (SP X pins D) X.xe s
section
variable {X : Cx} {e : Expr} {es : List Expr} {st : Stmt} {sts : List Stmt} {σ : L2.St} {H : Hp}
theorem pe_w : PE X e (wE X e) := ⟨fun pins s _ _ _ I h => by unfold wE at h; exact h pins s I⟩
theorem pt_w : PT X e (wT X e) := ⟨fun pins s _ _ _ I h => by unfold wT at h; exact h pins s I⟩
theorem pw_w : PW X e (wW X e) := ⟨fun whole pins s _ _ _ I h => by unfold wW at h; exact h whole pins s I⟩
theorem pa_w : PA X es (wA X es) := ⟨fun pos pins s _ _ _ I h => by unfold wA at h; exact h pos pins s I⟩
theorem ps_w : PS X st (wS X st) := ⟨fun pins s _ _ _ I h => by unfold wS at h; exact h pins s I⟩
theorem pss_w : PSs X sts (wSs X sts) := ⟨fun pins s _ _ _ I h => by unfold wSs at h; exact h pins s I⟩
theorem wE_at {Q : VK} (h : wE X e σ H Q) : ∀ pins s, Inv X pins σ H s → wpAny (model X.prog X.w) X.A (eval e X.env) (EP X pins σ Q) X.xe s := by unfold wE at h; exact h
theorem wT_at {Q : Bool → Hp → Prop} (h : wT X e σ H Q) : ∀ pins s, Inv X pins σ H s → wpAny (model X.prog X.w) X.A (isTrue e X.env (eval e X.env)) (TP X pins σ Q) X.xe s := by unfold wT at h; exact h
theorem wSs_at {D : Ends} (h : wSs X sts D σ H) : ∀ pins s, Inv X pins σ H s → wpAny (model X.prog X.w) X.A (execs sts X.env) (SP X pins D) X.xe s := by unfold wSs at h; exact h
theorem wE_mk {Q : VK} (h : ∀ pins s, Inv X pins σ H s → wpAny (model X.prog X.w) X.A (eval e X.env) (EP X pins σ Q) X.xe s) : wE X e σ H Q := by unfold wE; exact h
theorem wE_of {t : TE} {Q : VK} (h : PE X e t) (q : t σ H Q) : wE X e σ H Q := by unfold wE; exact fun pins s I => h.run pins s σ H Q I q
theorem wT_of {t : TT} {Q : Bool → Hp → Prop} (h : PT X e t) (q : t σ H Q) : wT X e σ H Q := by unfold wT; exact fun pins s I => h.run pins s σ H Q I q
theorem wW_of {t : TT} {Q : Bool → Hp → Prop} (h : PW X e t) (q : t σ H Q) : wW X e σ H Q := by unfold wW; exact fun whole pins s I => h.run whole pins s σ H Q I q
theorem wA_of {t : TA} {Q : List V → Hp → Prop} (h : PA X es t) (q : t σ H Q) : wA X es σ H Q := by unfold wA; exact fun pos pins s I => h.run pos pins s σ H Q I q
theorem wS_of {t : TS} {D : Ends} (h : PS X st t) (q : t D σ H) : wS X st D σ H := by unfold wS; exact fun pins s I => h.run pins s σ H D I q
theorem wSs_of {t : TS} {D : Ends} (h : PSs X sts t) (q : t D σ H) : wSs X sts D σ H := by unfold wSs; exact fun pins s I => h.run pins s σ H D I q
end

/-! ## 6. The judgements -/
section
variable (X : Cx) (O : Og) (M : Owns) (ρ : List Lo)
/-- e gives something that is known as l; what stands goes on -/
def Ed (e : Expr) (l : Lo) : Prop := ∀ B σ H, Sit X.K O B M ρ σ H → ∀ Q : VK, (∀ v B' H', Same B B' → Sit X.K O B' M ρ σ H' → LoOk X.K B' (some v) l → Q v H') → wE X e σ H Q
/-- e gives something that is known as some l of Φ (a draw) -/
def Ev (e : Expr) (Φ : Lo → Prop) : Prop := ∀ B σ H, Sit X.K O B M ρ σ H → ∀ Q : VK, (∀ v l B' H', Φ l → Same B B' → Sit X.K O B' M ρ σ H' → LoOk X.K B' (some v) l → Q v H') → wE X e σ H Q
/-- e gives a new list, of its own, of these items -/
def El (e : Expr) (ls : List Lo) : Prop := ∀ B σ H, Sit X.K O B M ρ σ H → ∀ Q : VK, (∀ a B' H', O.H a = none → Same B B' → Sit X.K O B' ((a, .lst ls) :: M) ρ σ H' → Q (.ref a) H') → wE X e σ H Q
def Et (e : Expr) (b : Bool) : Prop := ∀ B σ H, Sit X.K O B M ρ σ H → ∀ Q : Bool → Hp → Prop, (∀ B' H', Same B B' → Sit X.K O B' M ρ σ H' → Q b H') → wT X e σ H Q
def Ew (e : Expr) (b : Bool) : Prop := ∀ B σ H, Sit X.K O B M ρ σ H → ∀ Q : Bool → Hp → Prop, (∀ B' H', Same B B' → Sit X.K O B' M ρ σ H' → Q b H') → wW X e σ H Q
def Ea (es : List Expr) (ls : List Lo) : Prop := ∀ B σ H, Sit X.K O B M ρ σ H → ∀ Q : List V → Hp → Prop, (∀ vs B' H', Same B B' → Sit X.K O B' M ρ σ H' → Los X.K B' vs ls → Q vs H') → wA X es σ H Q
def Eva (es : List Expr) (Φ : List Lo → Prop) : Prop := ∀ B σ H, Sit X.K O B M ρ σ H → ∀ Q : List V → Hp → Prop, (∀ vs ls B' H', Φ ls → Same B B' → Sit X.K O B' M ρ σ H' → Los X.K B' vs ls → Q vs H') → wA X es σ H Q
/-- from here the statements come to the ends D -/
def Go (D : Ends) (sts : List Stmt) : Prop := ∀ B σ H, Sit X.K O B M ρ σ H → wSs X sts D σ H
end
/-- an operation on values -/
def Rd2 (K : PySem.W.Frag) (O : Og) (M : Owns) (ρ : List Lo) (r : R2) (la lb l : Lo) : Prop :=
  ∀ B σ H, Sit K O B M ρ σ H → ∀ x y, LoOk K B (some x) la → LoOk K B (some y) lb → ∀ Q : VK, (∀ v B' H', Same B B' → Sit K O B' M ρ σ H' → LoOk K B' (some v) l → Q v H') → r x y H Q
def RdL (K : PySem.W.Frag) (O : Og) (M : Owns) (ρ : List Lo) (r : R2) (la lb : Lo) (ls : List Lo) : Prop :=
  ∀ B σ H, Sit K O B M ρ σ H → ∀ x y, LoOk K B (some x) la → LoOk K B (some y) lb → ∀ Q : VK, (∀ a B' H', O.H a = none → Same B B' → Sit K O B' ((a, .lst ls) :: M) ρ σ H' → Q (.ref a) H') → r x y H Q
/-- a call by values -/
def Rc (K : PySem.W.Frag) (O : Og) (M : Owns) (ρ : List Lo) (r : List V → Hp → VK → Prop) (ls : List Lo) (l : Lo) : Prop :=
  ∀ B σ H, Sit K O B M ρ σ H → ∀ vs, Los K B vs ls → ∀ Q : VK, (∀ v B' H', Same B B' → Sit K O B' M ρ σ H' → LoOk K B' (some v) l → Q v H') → r vs H Q
def RcL (K : PySem.W.Frag) (O : Og) (M : Owns) (ρ : List Lo) (r : List V → Hp → VK → Prop) (ls : List Lo) (ks : List Lo) : Prop :=
  ∀ B σ H, Sit K O B M ρ σ H → ∀ vs, Los K B vs ls → ∀ Q : VK, (∀ a B' H', O.H a = none → Same B B' → Sit K O B' ((a, .lst ks) :: M) ρ σ H' → Q (.ref a) H') → r vs H Q

section
variable {X : Cx} {O : Og} {M : Owns} {ρ : List Lo} {e a b c : Expr} {es : List Expr} {l la lb : Lo} {pos p1 p2 p3 : Pos} {j : Nat}
theorem Ed.is {l' : Lo} (h : Ed X O M ρ e l) (q : l = l') : Ed X O M ρ e l' := q ▸ h
theorem Ed.ev {Φ : Lo → Prop} (h : Ed X O M ρ e l) (q : Φ l) : Ev X O M ρ e Φ := fun B σ H S Q k => h B σ H S Q fun v B' H' e1 S1 r => k v l B' H' q e1 S1 r
theorem Ev.mono {Φ Ψ : Lo → Prop} (h : Ev X O M ρ e Φ) (q : ∀ l, Φ l → Ψ l) : Ev X O M ρ e Ψ := fun B σ H S Q k => h B σ H S Q fun v l B' H' f e1 S1 r => k v l B' H' (q l f) e1 S1 r
theorem Ev.ed {Φ : Lo → Prop} (h : Ev X O M ρ e Φ) (q : ∀ l', Φ l' → l' = l) : Ed X O M ρ e l := fun B σ H S Q k => h B σ H S Q fun v l' B' H' f e1 S1 r => k v B' H' e1 S1 (q l' f ▸ r)
theorem Et.is {k k' : Bool} (h : Et X O M ρ e k) (q : k = k') : Et X O M ρ e k' := q ▸ h
/-- a new list as data -/
theorem El.ed {ds : List PyData} (h : El X O M ρ e (ds.map .d)) : Ed X O M ρ e (.d (.list ds)) := fun B σ H S Q k => h B σ H S Q fun a B' H' hO e1 S1 => by
  obtain ⟨h1, ⟨o, h2, h3⟩, h4⟩ := S1.own _ List.mem_cons_self
  obtain ⟨xs, rfl, h5⟩ := h3
  have hb : Same B' (upd B' a (.lst xs)) := fun b u q => by rw [upd_ne (ne_of_none q h1)]; exact q
  exact k (.ref a) (upd B' a (.lst xs)) H' (e1.trans hb) (S1.freeze 0 rfl h2 hO) (.lst upd_same ((Los.da h5).mono hb))
theorem El.is {ls ks : List Lo} (h : El X O M ρ e ls) (q : ls = ks) : El X O M ρ e ks := q ▸ h

/-! ### names, constants -/
theorem ed_v (i : Nat) {x : Str} (hl : ρ[i]? = some l := by rfl) (hno : l ≠ .no := by intro q; cases q) (hN : X.N[i]? = some x := by rfl)
    (hv : Vis X.env.scope x := by first | exact Or.inl rfl | exact Or.inr (Or.inl rfl) | exact Or.inr (Or.inr rfl)) (hd : (x == ("__debug__" : Str)) = false := by decide)
    (hcd : (x == ("__classdict__" : Str)) = false := by decide) : Ed X O M ρ (.Name x pos) l := fun B σ H S Q k => wE_of (pe_var hN hv hd hcd) (by
  obtain ⟨v, h1, h2⟩ := Paired.at2 S.sl hl
  cases v with
  | none => cases l with
    | no => exact absurd rfl hno
    | d _ => exact h2.elim
    | v _ => exact h2.elim
  | some v => exact ⟨v, h1, k v B H (Same.refl _) S h2⟩)
theorem ed_c {v : V} {d : PyData} (h : PE X e (tC v)) (q : ∀ B, Da X.K B v d) : Ed X O M ρ e (.d d) := fun B σ H S Q k => wE_of h (k v B H (Same.refl _) S (q B))
theorem ed_int {i : Int} : Ed X O M ρ (.Constant (.int i) j pos) (.d (.int i)) := ed_c pe_int fun _ => .int i
theorem ed_str {x : Str} : Ed X O M ρ (.Constant (.str x) j pos) (.d (.str x)) := ed_c pe_str fun _ => .str x
theorem ed_bl {x : Bool} : Ed X O M ρ (.Constant (.bool x) j pos) (.d (.bool x)) := ed_c pe_bl fun _ => .bl x
theorem ed_non : Ed X O M ρ (.Constant .none j pos) (.d .none) := ed_c pe_non fun _ => .non
/-- a constant of the module -/
theorem ed_gi {x : Str} {i : Int} (hm : ∃ t, X.mg x = some (.int i t)) (hg : Gl X x := by rfl) (hd : (x == ("__debug__" : Str)) = false := by decide) : Ed X O M ρ (.Name x pos) (.d (.int i)) :=
  let ⟨_, hm⟩ := hm; ed_c (v := .int i) (pe_glob hg hm ⟨_, rfl⟩ hd) fun _ => .int i
theorem ed_gs {x z : Str} (hm : ∃ t, X.mg x = some (.str z t)) (hg : Gl X x := by rfl) (hd : (x == ("__debug__" : Str)) = false := by decide) : Ed X O M ρ (.Name x pos) (.d (.str z)) :=
  let ⟨_, hm⟩ := hm; ed_c (v := .str z) (pe_glob hg hm ⟨_, rfl⟩ hd) fun _ => .str z
theorem ed_gr {x : Str} {r : Addr} {d : PyData} (hm : X.mg x = some (.ref r)) (q : ∀ B, Da X.K B (.ref r) d) (hg : Gl X x := by rfl) (hd : (x == ("__debug__" : Str)) = false := by decide) : Ed X O M ρ (.Name x pos) (.d d) :=
  ed_c (v := .ref r) (pe_glob hg hm rfl hd) q

/-! ### operators -/
theorem ed_op {op : Operator} {r : R2} (ho : OpR X (binaryOp op) r) (ha : Ed X O M ρ a la) (hb : Ed X O M ρ b lb) (hr : Rd2 X.K O M ρ r la lb l) : Ed X O M ρ (.BinOp a op b pos) l :=
  fun B σ H S Q q => wE_of (pe_op ho pe_w pe_w) (ha B σ H S _ fun x B1 H1 e1 S1 r1 => hb B1 σ H1 S1 _ fun y B2 H2 e2 S2 r2 =>
    hr B2 σ H2 S2 x y (r1.mono e2) r2 Q fun v B3 H3 e3 S3 r3 => q v B3 H3 ((e1.trans e2).trans e3) S3 r3)
theorem el_op {op : Operator} {r : R2} {ls : List Lo} (ho : OpR X (binaryOp op) r) (ha : Ed X O M ρ a la) (hb : Ed X O M ρ b lb) (hr : RdL X.K O M ρ r la lb ls) : El X O M ρ (.BinOp a op b pos) ls :=
  fun B σ H S Q q => wE_of (pe_op ho pe_w pe_w) (ha B σ H S _ fun x B1 H1 e1 S1 r1 => hb B1 σ H1 S1 _ fun y B2 H2 e2 S2 r2 =>
    hr B2 σ H2 S2 x y (r1.mono e2) r2 Q fun v B3 H3 hO e3 S3 => q v B3 H3 hO ((e1.trans e2).trans e3) S3)
theorem ed_cmp {op : CmpOp} {r : R2} (ho : OpR X (compareOp op) r) (ha : Ed X O M ρ a la) (hb : Ed X O M ρ b lb) (hr : Rd2 X.K O M ρ r la lb l) (hm : behindInMarks op b = false := by first | exact nomark _ | rfl) : Ed X O M ρ (.Compare a [op] [b] pos) l :=
  fun B σ H S Q q => wE_of (pe_cmpR ho pe_w pe_w hm) (ha B σ H S _ fun x B1 H1 e1 S1 r1 => hb B1 σ H1 S1 _ fun y B2 H2 e2 S2 r2 =>
    hr B2 σ H2 S2 x y (r1.mono e2) r2 Q fun v B3 H3 e3 S3 r3 => q v B3 H3 ((e1.trans e2).trans e3) S3 r3)
theorem et_cmp {op : CmpOp} {r : R2} {k : Bool} (ho : OpR X (compareOp op) r) (ha : Ed X O M ρ a la) (hb : Ed X O M ρ b lb) (hr : Rd2 X.K O M ρ r la lb (.d (.bool k))) (hm : behindInMarks op b = false := by first | exact nomark _ | rfl) : Et X O M ρ (.Compare a [op] [b] pos) k :=
  fun B σ H S Q q => wT_of (pt_cmpR ho pe_w pe_w hm) (ha B σ H S _ fun x B1 H1 e1 S1 r1 => hb B1 σ H1 S1 _ fun y B2 H2 e2 S2 r2 =>
    hr B2 σ H2 S2 x y (r1.mono e2) r2 _ fun v B3 H3 e3 S3 r3 => by
      cases r3
      exact ⟨k, rfl, q B3 H3 ((e1.trans e2).trans e3) S3⟩)
theorem rd_int {g : Int → Int → Int} {i j : Int} : Rd2 X.K O M ρ (rI0 fun i j => .int (g i j)) (.d (.int i)) (.d (.int j)) (.d (.int (g i j))) := fun B σ H S x y hx hy Q q => by
  cases hx; cases hy
  exact ⟨i, j, rfl, rfl, q _ B H (Same.refl _) S (.int _)⟩
theorem rd_intC {C : Int → Int → Prop} {g : Int → Int → Int} {i j : Int} (hc : C i j) : Rd2 X.K O M ρ (rI C fun i j => .int (g i j)) (.d (.int i)) (.d (.int j)) (.d (.int (g i j))) := fun B σ H S x y hx hy Q q => by
  cases hx; cases hy
  exact ⟨i, j, rfl, rfl, hc, q _ B H (Same.refl _) S (.int _)⟩
theorem rd_intB {g : Int → Int → Bool} {i j : Int} : Rd2 X.K O M ρ (rI0 fun i j => .bl (g i j)) (.d (.int i)) (.d (.int j)) (.d (.bool (g i j))) := fun B σ H S x y hx hy Q q => by
  cases hx; cases hy
  exact ⟨i, j, rfl, rfl, q _ B H (Same.refl _) S (.bl _)⟩
theorem ed_add {i k : Int} (ha : Ed X O M ρ a (.d (.int i))) (hb : Ed X O M ρ b (.d (.int k))) : Ed X O M ρ (.BinOp a .Add b pos) (.d (.int (i + k))) := ed_op op_add ha hb rd_int
theorem ed_sub {i k : Int} (ha : Ed X O M ρ a (.d (.int i))) (hb : Ed X O M ρ b (.d (.int k))) : Ed X O M ρ (.BinOp a .Sub b pos) (.d (.int (i - k))) := ed_op op_sub ha hb rd_int
theorem ed_lt {i k : Int} (ha : Ed X O M ρ a (.d (.int i))) (hb : Ed X O M ρ b (.d (.int k))) : Ed X O M ρ (.Compare a [.Lt] [b] pos) (.d (.bool (decide (i < k)))) := ed_cmp op_lt ha hb rd_intB
theorem ed_le {i k : Int} (ha : Ed X O M ρ a (.d (.int i))) (hb : Ed X O M ρ b (.d (.int k))) : Ed X O M ρ (.Compare a [.LtE] [b] pos) (.d (.bool (decide (i ≤ k)))) := ed_cmp op_le ha hb rd_intB
theorem ed_gt {i k : Int} (ha : Ed X O M ρ a (.d (.int i))) (hb : Ed X O M ρ b (.d (.int k))) : Ed X O M ρ (.Compare a [.Gt] [b] pos) (.d (.bool (decide (k < i)))) := ed_cmp op_gt ha hb rd_intB
theorem ed_ge {i k : Int} (ha : Ed X O M ρ a (.d (.int i))) (hb : Ed X O M ρ b (.d (.int k))) : Ed X O M ρ (.Compare a [.GtE] [b] pos) (.d (.bool (decide (k ≤ i)))) := ed_cmp op_ge ha hb rd_intB
theorem et_lt {i k : Int} (ha : Ed X O M ρ a (.d (.int i))) (hb : Ed X O M ρ b (.d (.int k))) : Et X O M ρ (.Compare a [.Lt] [b] pos) (decide (i < k)) := et_cmp op_lt ha hb rd_intB
theorem et_le {i k : Int} (ha : Ed X O M ρ a (.d (.int i))) (hb : Ed X O M ρ b (.d (.int k))) : Et X O M ρ (.Compare a [.LtE] [b] pos) (decide (i ≤ k)) := et_cmp op_le ha hb rd_intB
theorem et_gt {i k : Int} (ha : Ed X O M ρ a (.d (.int i))) (hb : Ed X O M ρ b (.d (.int k))) : Et X O M ρ (.Compare a [.Gt] [b] pos) (decide (k < i)) := et_cmp op_gt ha hb rd_intB
theorem et_ge {i k : Int} (ha : Ed X O M ρ a (.d (.int i))) (hb : Ed X O M ρ b (.d (.int k))) : Et X O M ρ (.Compare a [.GtE] [b] pos) (decide (k ≤ i)) := et_cmp op_ge ha hb rd_intB

/-! ### == of data of any depth (the room for the shallower one) -/
def Room64 (X : Cx) : Prop := X.A.units + 190 < cLine
def EqOk (x y : PyData) : Prop := x.canLay0 = true ∧ y.canLay0 = true ∧ (x.depth ≤ 180 ∨ y.depth ≤ 180)
def rEqA (K : PySem.W.Frag) : R2 := fun x y H Q => ∃ d e, Dp K H x d ∧ Dp K H y e ∧ EqOk d e ∧ Q (.bl (PyData.eqv d e)) H
def rNeA (K : PySem.W.Frag) : R2 := fun x y H Q => ∃ d e, Dp K H x d ∧ Dp K H y e ∧ EqOk d e ∧ Q (.bl (!PyData.eqv d e)) H
theorem op_eqA (hu : Room64 X) : OpR X (compareOp .Eq) (rEqA X.K) := by
  rintro pins s σ H x y v u Q I rx ry ⟨d, e, hd, he, ⟨k1, k2, k3⟩, q⟩
  obtain ⟨as, r1⟩ := Dp.reads I d x v hd rx
  obtain ⟨bs, r2⟩ := Dp.reads I e y u he ry
  refine SeqAt.compareEq_reads r1 r2 k1 k2 (by have := hu; unfold Room64 at this; omega) ⟨.bl _, H, I, rfl, q⟩
theorem op_neA (hu : Room64 X) : OpR X (compareOp .NotEq) (rNeA X.K) := by
  rintro pins s σ H x y v u Q I rx ry ⟨d, e, hd, he, ⟨k1, k2, k3⟩, q⟩
  obtain ⟨as, r1⟩ := Dp.reads I d x v hd rx
  obtain ⟨bs, r2⟩ := Dp.reads I e y u he ry
  refine SeqAt.compareNe_reads r1 r2 k1 k2 (by have := hu; unfold Room64 at this; omega) ⟨.bl _, H, I, rfl, q⟩
theorem rd_eq {x y : PyData} (h : EqOk x y) : Rd2 X.K O M ρ (rEqA X.K) (.d x) (.d y) (.d (.bool (PyData.eqv x y))) := fun B σ H S v w hv hw Q q =>
  ⟨x, y, (Da.mono S.bh (show Da X.K B v x from hv)).dp, (Da.mono S.bh (show Da X.K B w y from hw)).dp, h, q _ B H (Same.refl _) S (.bl _)⟩
theorem rd_ne {x y : PyData} (h : EqOk x y) : Rd2 X.K O M ρ (rNeA X.K) (.d x) (.d y) (.d (.bool (!PyData.eqv x y))) := fun B σ H S v w hv hw Q q =>
  ⟨x, y, (Da.mono S.bh (show Da X.K B v x from hv)).dp, (Da.mono S.bh (show Da X.K B w y from hw)).dp, h, q _ B H (Same.refl _) S (.bl _)⟩
theorem ed_eq {x y : PyData} (hu : Room64 X) (ha : Ed X O M ρ a (.d x)) (hb : Ed X O M ρ b (.d y)) (h : EqOk x y) : Ed X O M ρ (.Compare a [.Eq] [b] pos) (.d (.bool (PyData.eqv x y))) := ed_cmp (op_eqA hu) ha hb (rd_eq h)
theorem ed_ne {x y : PyData} (hu : Room64 X) (ha : Ed X O M ρ a (.d x)) (hb : Ed X O M ρ b (.d y)) (h : EqOk x y) : Ed X O M ρ (.Compare a [.NotEq] [b] pos) (.d (.bool (!PyData.eqv x y))) := ed_cmp (op_neA hu) ha hb (rd_ne h)
theorem et_eq {x y : PyData} (hu : Room64 X) (ha : Ed X O M ρ a (.d x)) (hb : Ed X O M ρ b (.d y)) (h : EqOk x y) : Et X O M ρ (.Compare a [.Eq] [b] pos) (PyData.eqv x y) := et_cmp (op_eqA hu) ha hb (rd_eq h)
theorem et_ne {x y : PyData} (hu : Room64 X) (ha : Ed X O M ρ a (.d x)) (hb : Ed X O M ρ b (.d y)) (h : EqOk x y) : Et X O M ρ (.Compare a [.NotEq] [b] pos) (!PyData.eqv x y) := et_cmp (op_neA hu) ha hb (rd_ne h)
/-- of texts, of numbers -/
theorem rd_scal {x y : V} {d e : PyData} (hx : ∀ B v, Da X.K B v d → v = x) (hy : ∀ B v, Da X.K B v e → v = y) (h : scal x y = true) : Rd2 X.K O M ρ rEq (.d d) (.d e) (.d (.bool (decide (x = y)))) := fun B σ H S v w hv hw Q q => by
  cases hx B v hv; cases hy B w hw
  exact ⟨h, q _ B H (Same.refl _) S (.bl _)⟩
theorem rd_scalN {x y : V} {d e : PyData} (hx : ∀ B v, Da X.K B v d → v = x) (hy : ∀ B v, Da X.K B v e → v = y) (h : scal x y = true) : Rd2 X.K O M ρ rNe (.d d) (.d e) (.d (.bool (!decide (x = y)))) := fun B σ H S v w hv hw Q q => by
  cases hx B v hv; cases hy B w hw
  exact ⟨h, q _ B H (Same.refl _) S (.bl _)⟩
theorem da_str {K : PySem.W.Frag} {B : Hp} {v : V} {x : Str} (h : Da K B v (.str x)) : v = .str x := by cases h; rfl
theorem da_int {K : PySem.W.Frag} {B : Hp} {v : V} {x : Int} (h : Da K B v (.int x)) : v = .int x := by cases h; rfl
theorem dec_s {x y : Str} : decide (V.str x = V.str y) = decide (x = y) := by simp
theorem dec_i {x y : Int} : decide (V.int x = V.int y) = decide (x = y) := by simp
theorem ed_eqS {x y : Str} (ha : Ed X O M ρ a (.d (.str x))) (hb : Ed X O M ρ b (.d (.str y))) : Ed X O M ρ (.Compare a [.Eq] [b] pos) (.d (.bool (decide (x = y)))) := by
  have h := ed_cmp (pos := pos) op_eq ha hb (rd_scal (fun _ _ => da_str) (fun _ _ => da_str) rfl)
  rw [dec_s] at h
  exact h
theorem et_eqS {x y : Str} (ha : Ed X O M ρ a (.d (.str x))) (hb : Ed X O M ρ b (.d (.str y))) : Et X O M ρ (.Compare a [.Eq] [b] pos) (decide (x = y)) := by
  have h := et_cmp (pos := pos) op_eq ha hb (rd_scal (fun _ _ => da_str) (fun _ _ => da_str) rfl)
  rw [dec_s] at h
  exact h
theorem et_neS {x y : Str} (ha : Ed X O M ρ a (.d (.str x))) (hb : Ed X O M ρ b (.d (.str y))) : Et X O M ρ (.Compare a [.NotEq] [b] pos) (!decide (x = y)) := by
  have h := et_cmp (pos := pos) op_ne ha hb (rd_scalN (fun _ _ => da_str) (fun _ _ => da_str) rfl)
  rw [dec_s] at h
  exact h
theorem ed_eqI {x y : Int} (ha : Ed X O M ρ a (.d (.int x))) (hb : Ed X O M ρ b (.d (.int y))) : Ed X O M ρ (.Compare a [.Eq] [b] pos) (.d (.bool (decide (x = y)))) := by
  have h := ed_cmp (pos := pos) op_eq ha hb (rd_scal (fun _ _ => da_int) (fun _ _ => da_int) rfl)
  rw [dec_i] at h
  exact h
theorem et_eqI {x y : Int} (ha : Ed X O M ρ a (.d (.int x))) (hb : Ed X O M ρ b (.d (.int y))) : Et X O M ρ (.Compare a [.Eq] [b] pos) (decide (x = y)) := by
  have h := et_cmp (pos := pos) op_eq ha hb (rd_scal (fun _ _ => da_int) (fun _ _ => da_int) rfl)
  rw [dec_i] at h
  exact h

/-! ### tests, and, or, not, if -/
theorem et_v {k : Bool} (h : Ed X O M ρ e (.d (.bool k))) (he : ∀ whole, isTrue e X.env whole = (do let v ← whole; standAt e.pos; holding [v] (truthy v)) := by intro _; rfl) : Et X O M ρ e k :=
  fun B σ H S Q q => wT_of (pt_val pe_w he) (h B σ H S _ fun v B' H' e1 S1 r => by
    cases r
    exact ⟨k, rfl, q B' H' e1 S1⟩)
theorem et_w {k : Bool} (h : Ew X O M ρ e k) : Et X O M ρ e k := fun B σ H S Q q => wT_of pw_w.pt (h B σ H S Q q)
theorem ew_and {rest : List Expr} {k k' : Bool} (h1 : Et X O M ρ a k) (h2 : k = true → Ew X O M ρ (.BoolOp .And (b :: rest) pos) k') : Ew X O M ρ (.BoolOp .And (a :: b :: rest) pos) (k && k') :=
  fun B σ H S Q q => wW_of (pw_and pt_w pw_w) (h1 B σ H S _ fun B1 H1 e1 S1 => by
    cases k with
    | true => exact iteT (h2 rfl B1 σ H1 S1 Q fun B2 H2 e2 S2 => q B2 H2 (e1.trans e2) S2)
    | false => exact iteF (q B1 H1 e1 S1))
theorem ew_or {rest : List Expr} {k k' : Bool} (h1 : Et X O M ρ a k) (h2 : k = false → Ew X O M ρ (.BoolOp .Or (b :: rest) pos) k') : Ew X O M ρ (.BoolOp .Or (a :: b :: rest) pos) (k || k') :=
  fun B σ H S Q q => wW_of (pw_or pt_w pw_w) (h1 B σ H S _ fun B1 H1 e1 S1 => by
    cases k with
    | true => exact iteT (q B1 H1 e1 S1)
    | false => exact iteF (h2 rfl B1 σ H1 S1 Q fun B2 H2 e2 S2 => q B2 H2 (e1.trans e2) S2))
theorem ew_and1 {k : Bool} (h : Et X O M ρ a k) : Ew X O M ρ (.BoolOp .And [a] pos) k := fun B σ H S Q q => wW_of (pw_and1 pt_w) (h B σ H S Q q)
theorem ew_or1 {k : Bool} (h : Et X O M ρ a k) : Ew X O M ρ (.BoolOp .Or [a] pos) k := fun B σ H S Q q => wW_of (pw_or1 pt_w) (h B σ H S Q q)
theorem et_and {k k' : Bool} (h1 : Et X O M ρ a k) (h2 : k = true → Et X O M ρ b k') : Et X O M ρ (.BoolOp .And [a, b] pos) (k && k') := et_w (ew_and h1 fun q => ew_and1 (h2 q))
theorem et_or {k k' : Bool} (h1 : Et X O M ρ a k) (h2 : k = false → Et X O M ρ b k') : Et X O M ρ (.BoolOp .Or [a, b] pos) (k || k') := et_w (ew_or h1 fun q => ew_or1 (h2 q))
theorem et_not {k : Bool} (h : Et X O M ρ a k) : Et X O M ρ (.UnaryOp .Not a pos) (!k) := fun B σ H S Q q => wT_of (pt_not pt_w) (h B σ H S _ fun B1 H1 e1 S1 => q B1 H1 e1 S1)
theorem ed_one {op} (h : Ed X O M ρ a l) : Ed X O M ρ (.BoolOp op [a] pos) l := fun B σ H S Q q => wE_of (pe_one pe_w) (h B σ H S Q q)
theorem ed_andc {rest : List Expr} {k k' : Bool} (h1 : Ed X O M ρ a (.d (.bool k))) (h2 : k = true → Ed X O M ρ (.BoolOp .And (b :: rest) pos) (.d (.bool k'))) : Ed X O M ρ (.BoolOp .And (a :: b :: rest) pos) (.d (.bool (k && k'))) :=
  fun B σ H S Q q => wE_of (pe_and pe_w pe_w) (h1 B σ H S _ fun v B1 H1 e1 S1 r => by
    cases r
    refine ⟨k, rfl, ?_⟩
    cases k with
    | true => exact iteT (h2 rfl B1 σ H1 S1 Q fun v B2 H2 e2 S2 r2 => q v B2 H2 (e1.trans e2) S2 r2)
    | false => exact iteF (q _ B1 H1 e1 S1 (.bl _)))
theorem ed_orc {rest : List Expr} {k k' : Bool} (h1 : Ed X O M ρ a (.d (.bool k))) (h2 : k = false → Ed X O M ρ (.BoolOp .Or (b :: rest) pos) (.d (.bool k'))) : Ed X O M ρ (.BoolOp .Or (a :: b :: rest) pos) (.d (.bool (k || k'))) :=
  fun B σ H S Q q => wE_of (pe_or pe_w pe_w) (h1 B σ H S _ fun v B1 H1 e1 S1 r => by
    cases r
    refine ⟨k, rfl, ?_⟩
    cases k with
    | true => exact iteT (q _ B1 H1 e1 S1 (.bl _))
    | false => exact iteF (h2 rfl B1 σ H1 S1 Q fun v B2 H2 e2 S2 r2 => q v B2 H2 (e1.trans e2) S2 r2))
theorem ed_and {k k' : Bool} (h1 : Ed X O M ρ a (.d (.bool k))) (h2 : k = true → Ed X O M ρ b (.d (.bool k'))) : Ed X O M ρ (.BoolOp .And [a, b] pos) (.d (.bool (k && k'))) := ed_andc h1 fun q => ed_one (h2 q)
theorem ed_or {k k' : Bool} (h1 : Ed X O M ρ a (.d (.bool k))) (h2 : k = false → Ed X O M ρ b (.d (.bool k'))) : Ed X O M ρ (.BoolOp .Or [a, b] pos) (.d (.bool (k || k'))) := ed_orc h1 fun q => ed_one (h2 q)
theorem ed_not {k : Bool} (h : Ed X O M ρ a (.d (.bool k))) : Ed X O M ρ (.UnaryOp .Not a pos) (.d (.bool (!k))) := fun B σ H S Q q => wE_of (pe_not pe_w) (h B σ H S _ fun v B1 H1 e1 S1 r => by
  cases r
  exact ⟨k, rfl, q _ B1 H1 e1 S1 (.bl _)⟩)
theorem ed_if {k : Bool} (hc : Et X O M ρ c k) (h1 : k = true → Ed X O M ρ a l) (h2 : k = false → Ed X O M ρ b l) : Ed X O M ρ (.IfExp c a b pos) l := fun B σ H S Q q => wE_of (pe_ifExp pt_w pe_w pe_w) (hc B σ H S _ fun B1 H1 e1 S1 => by
  cases k with
  | true => exact iteT (h1 rfl B1 σ H1 S1 Q fun v B2 H2 e2 S2 r2 => q v B2 H2 (e1.trans e2) S2 r2)
  | false => exact iteF (h2 rfl B1 σ H1 S1 Q fun v B2 H2 e2 S2 r2 => q v B2 H2 (e1.trans e2) S2 r2))
theorem ed_ifT {k : Bool} (hc : Et X O M ρ c k) (hk : k = true) (h1 : Ed X O M ρ a l) : Ed X O M ρ (.IfExp c a b pos) l := ed_if hc (fun _ => h1) fun q => by rw [hk] at q; cases q
theorem ed_ifF {k : Bool} (hc : Et X O M ρ c k) (hk : k = false) (h1 : Ed X O M ρ b l) : Ed X O M ρ (.IfExp c a b pos) l := ed_if hc (fun q => by rw [hk] at q; cases q) fun _ => h1

/-! ### arguments, displays, items -/
theorem ea_nil : Ea X O M ρ [] [] := fun B σ H S Q q => wA_of pa_nil (q [] B H (Same.refl _) S .nil)
theorem ea_cons {ls : List Lo} (h1 : Ed X O M ρ e l) (h2 : Ea X O M ρ es ls) (hs : starEach (e :: es) X.env = (false, eval e X.env) :: starEach es X.env := by rfl) : Ea X O M ρ (e :: es) (l :: ls) :=
  fun B σ H S Q q => wA_of (pa_cons pe_w pa_w hs) (h1 B σ H S _ fun v B1 H1 e1 S1 r1 => h2 B1 σ H1 S1 _ fun vs B2 H2 e2 S2 r2 => q _ B2 H2 (e1.trans e2) S2 (.cons (r1.mono e2) r2))
theorem eva_nil : Eva X O M ρ [] (fun ls => ls = []) := fun B σ H S Q q => wA_of pa_nil (q [] [] B H rfl (Same.refl _) S .nil)
theorem eva_cons {Φ : Lo → Prop} {Ψ : List Lo → Prop} (h1 : Ev X O M ρ e Φ) (h2 : Eva X O M ρ es Ψ) (hs : starEach (e :: es) X.env = (false, eval e X.env) :: starEach es X.env := by rfl) : Eva X O M ρ (e :: es) (fun ls => ∃ l r, ls = l :: r ∧ Φ l ∧ Ψ r) :=
  fun B σ H S Q q => wA_of (pa_cons pe_w pa_w hs) (h1 B σ H S _ fun v l B1 H1 f1 e1 S1 r1 => h2 B1 σ H1 S1 _ fun vs ls B2 H2 f2 e2 S2 r2 => q _ (l :: ls) B2 H2 ⟨l, ls, rfl, f1, f2⟩ (e1.trans e2) S2 (.cons (r1.mono e2) r2))
theorem size_line {n : Nat} (h : n ≤ 100000) : n ≤ sizeLine := Nat.le_trans h (by decide)
theorem ed_tup {x1} {ds : List PyData} (h : Ea X O M ρ es (ds.map .d)) (hz : ds.length ≤ 100000 := by first | decide | simp) : Ed X O M ρ (.Tuple es x1 pos) (.d (.tuple ds)) := fun B σ H S Q q => wE_of (pe_tup pa_w) (h B σ H S _ fun vs B1 H1 e1 S1 r1 => by
  have z := Los.da r1
  refine ⟨size_line (by rw [z.length]; exact hz), fun p hp => ?_⟩
  have hB : B1 p = none := by
    cases e : B1 p with
    | none => rfl
    | some u => rw [S1.bh _ _ e] at hp; cases hp
  have hb : Same B1 (upd B1 p (.tup vs)) := fun b u k => by rw [upd_ne (ne_of_none k hB)]; exact k
  exact q _ _ _ (e1.trans hb) (S1.newD hp) (.tup (SqT.of upd_same) (z.mono hb)))
theorem el_lst {ls : List Lo} (h : Ea X O M ρ es ls) (hz : ls.length ≤ 100000 := by first | decide | simp) : El X O M ρ (.List es pos) ls := fun B σ H S Q q => wE_of (pe_lst pa_w) (h B σ H S _ fun vs B1 H1 e1 S1 r1 => by
  refine ⟨size_line (by rw [Paired.len r1]; exact hz), fun p hp => ?_⟩
  exact q p B1 _ (S1.fresh hp) e1 (S1.new hp ⟨vs, rfl, r1⟩))
theorem ed_lst {ds : List PyData} (h : Ea X O M ρ es (ds.map .d)) (hz : ds.length ≤ 100000 := by first | decide | simp) : Ed X O M ρ (.List es pos) (.d (.list ds)) := (el_lst h (by rw [List.length_map]; exact hz)).ed
/-- a place in data -/
theorem ixN_lt {n : Nat} {i : Int} {k : Nat} (h : ixN n i = some k) : k < n := (ixN_seq h).2.1
theorem rd_ixL {ds : List PyData} {d : PyData} {i : Int} (h : atI ds i = some d) : Rd2 X.K O M ρ (rIxL X.K) (.d (.list ds)) (.d (.int i)) (.d d) := fun B σ H S x y hx hy Q q => by
  cases hy
  cases hx with
  | lst h1 h2 =>
    unfold atI at h
    cases e : ixN ds.length i with
    | none => rw [e] at h; cases h
    | some k =>
      rw [e] at h
      obtain ⟨v, h3, h4⟩ := h2.get (i := k) (d := d) h
      exact ⟨_, _, i, v, rfl, rfl, SqL.of (S.bh _ _ h1), by unfold atI; rw [h2.length, e]; exact h3, q v B H (Same.refl _) S h4⟩
theorem rd_ixT {ds : List PyData} {d : PyData} {i : Int} (h : atI ds i = some d) : Rd2 X.K O M ρ (rIxT X.K) (.d (.tuple ds)) (.d (.int i)) (.d d) := fun B σ H S x y hx hy Q q => by
  cases hy
  cases hx with
  | tup h1 h2 =>
    unfold atI at h
    cases e : ixN ds.length i with
    | none => rw [e] at h; cases h
    | some k =>
      rw [e] at h
      obtain ⟨v, h3, h4⟩ := h2.get (i := k) (d := d) h
      exact ⟨_, _, i, v, rfl, rfl, sqt_mono S.bh h1, by unfold atI; rw [h2.length, e]; exact h3, q v B H (Same.refl _) S h4⟩
theorem ed_ixr {r : R2} (hr : IxR X r) (ha : Ed X O M ρ a la) (hb : Ed X O M ρ b lb) (hd : Rd2 X.K O M ρ r la lb l) (hs : PlainIx b := by exact fun _ _ => rfl) : Ed X O M ρ (.Subscript a b pos) l :=
  fun B σ H S Q q => wE_of (pe_ix hr pe_w pe_w hs) (ha B σ H S _ fun x B1 H1 e1 S1 r1 => hb B1 σ H1 S1 _ fun y B2 H2 e2 S2 r2 =>
    hd B2 σ H2 S2 x y (r1.mono e2) r2 Q fun v B3 H3 e3 S3 r3 => q v B3 H3 ((e1.trans e2).trans e3) S3 r3)
theorem ed_ixL {ds : List PyData} {d : PyData} {i : Int} (ha : Ed X O M ρ a (.d (.list ds))) (hb : Ed X O M ρ b (.d (.int i))) (h : atI ds i = some d := by rfl) (hs : PlainIx b := by exact fun _ _ => rfl) : Ed X O M ρ (.Subscript a b pos) (.d d) := ed_ixr ix_list ha hb (rd_ixL h) hs
theorem ed_ixT {ds : List PyData} {d : PyData} {i : Int} (ha : Ed X O M ρ a (.d (.tuple ds))) (hb : Ed X O M ρ b (.d (.int i))) (h : atI ds i = some d := by rfl) (hs : PlainIx b := by exact fun _ _ => rfl) : Ed X O M ρ (.Subscript a b pos) (.d d) := ed_ixr ix_tup ha hb (rd_ixT h) hs
/-- a place in an own list -/
theorem rd_ixO {p : Addr} {ls : List Lo} {i : Int} (hm : (p, Own.lst ls) ∈ M) (h : atI ls i = some l) : Rd2 X.K O M ρ (rIxL X.K) (.v (.ref p)) (.d (.int i)) l := fun B σ H S x y hx hy Q q => by
  cases hy
  cases hx
  obtain ⟨h1, ⟨o, h2, xs, rfl, h3⟩, h4⟩ := S.own _ hm
  unfold atI at h
  cases e : ixN ls.length i with
  | none => rw [e] at h; cases h
  | some k =>
    rw [e] at h
    obtain ⟨v, g1, g2⟩ := Paired.at2 (i := k) (b := l) h3 h
    exact ⟨_, _, i, v, rfl, rfl, SqL.of h2, by unfold atI; rw [Paired.len h3, e]; exact g1, q v B H (Same.refl _) S g2⟩
theorem ed_ixO {p : Addr} {ls : List Lo} {i : Int} (ha : Ed X O M ρ a (.v (.ref p))) (hm : (p, Own.lst ls) ∈ M) (hb : Ed X O M ρ b (.d (.int i))) (h : atI ls i = some l) (hs : PlainIx b := by exact fun _ _ => rfl) : Ed X O M ρ (.Subscript a b pos) l := ed_ixr ix_list ha hb (rd_ixO hm h) hs
end
end K32

set_option maxRecDepth 100000
set_option maxHeartbeats 4000000
namespace K32
open PySem L2

/-! ## 7. Promises of pure defs: data to data -/
def spR (K : PySem.W.Frag) (R : List PyData → PyData → Prop) : Sp := fun vs H Q _ => ∃ B ds d, Same B H ∧ DaAll K B vs ds ∧ R ds d ∧ ∀ v B' H', Nx [] B H B' H' → Da K B' v d → Q v H'
/-- .. that hand back a new list, which the caller may write -/
def spL (K : PySem.W.Frag) (R : List PyData → List PyData → Prop) : Sp := fun vs H Q _ => ∃ B ds es, Same B H ∧ DaAll K B vs ds ∧ R ds es ∧
  ∀ a xs B' H', Nx [] B H B' H' → H a = none → B' a = none → H' a = some (.lst xs) → DaAll K B' xs es → Q (.ref a) H'
/-- a def of the module -/
structure Def (P : Program) (w : World) (K : PySem.W.Frag) (mg : Str → Option Value) (base : Heap) (CX : CXT) (x : Str) (k : Nat) (ps : List Str) (sp : Sp) : Prop where
  ex : ∃ f fd, FnOk P w K mg base CX k f fd ps sp ∧ mg x = some (.ref f) ∧ PySem.W.keepIn K (.ref f) = true ∧ Binds K fd ps []
theorem Def.up {P : Program} {w : World} {K : PySem.W.Frag} {mg : Str → Option Value} {base : Heap} {CX : CXT} {x : Str} {k j : Nat} {ps : List Str} {sp : Sp} (D : Def P w K mg base CX x k ps sp) (h : k ≤ j) : Def P w K mg base CX x j ps sp := by
  obtain ⟨f, fd, F, a, b, c⟩ := D.ex
  exact ⟨f, fd, F.mono h, a, b, c⟩
theorem Def.imp {P : Program} {w : World} {K : PySem.W.Frag} {mg : Str → Option Value} {base : Heap} {CX : CXT} {x : Str} {k : Nat} {ps : List Str} {sp sp' : Sp} (D : Def P w K mg base CX x k ps sp) (h : ∀ vs H Q E, sp' vs H Q E → sp vs H Q E) : Def P w K mg base CX x k ps sp' := by
  obtain ⟨f, fd, F, a, b, c⟩ := D.ex
  exact ⟨f, fd, F.imp h, a, b, c⟩
/-- what the ends want of the value handed back -/
def RetOk (K : PySem.W.Frag) (O : Og) (D : Ends) (d : PyData) : Prop := ∀ B H v, Nx O.xs O.B O.H B H → Da K B v d → D.rt v H

section
variable {X : Cx} {O : Og} {M : Owns} {ρ : List Lo} {e a b c : Expr} {es : List Expr} {l la lb : Lo} {pos p1 p2 p3 : Pos} {D : Ends} {st : Stmt} {rest tb fb : List Stmt}
/-! ### calls -/
theorem ed_callR {x : Str} {k : Nat} {ps : List Str} {R : List PyData → PyData → Prop} {ds : List PyData} {d : PyData} (F : Def X.prog X.w X.K X.mg X.base CX0 x k ps (spR X.K R)) (hr : Room k X.A) (ha : Ea X O M ρ (e :: es) (ds.map .d)) (h : R ds d)
    (hg : Gl X x := by rfl) (hdb : (x == ("__debug__" : Str)) = false := by decide) (he : starEach (e :: es) X.env = (false, eval e X.env) :: starEach es X.env := by rfl)
    (hpl : (backTo pos (starEach es X.env)).any (·.1) = false := by rfl) : Ed X O M ρ (.Call (.Name x p1) (e :: es) [] pos) (.d d) := fun B σ H S Q q => by
  obtain ⟨f, fd, F, hm, hk, hb⟩ := F.ex
  refine wE_of (pe_call F hr hg hm hk hb .nil pass0 pa_w hdb he hpl) (ha B σ H S _ fun vs B1 H1 e1 S1 r1 => ?_)
  show spR X.K R (vs ++ []) H1 Q E0
  rw [List.append_nil]
  exact ⟨B1, ds, d, S1.bh, Los.da r1, h, fun v B2 H2 n r => q v B2 H2 (e1.trans n.bb) (S1.step n) r⟩
theorem el_callL {x : Str} {k : Nat} {ps : List Str} {R : List PyData → List PyData → Prop} {ds fs : List PyData} (F : Def X.prog X.w X.K X.mg X.base CX0 x k ps (spL X.K R)) (hr : Room k X.A) (ha : Ea X O M ρ (e :: es) (ds.map .d)) (h : R ds fs)
    (hg : Gl X x := by rfl) (hdb : (x == ("__debug__" : Str)) = false := by decide) (he : starEach (e :: es) X.env = (false, eval e X.env) :: starEach es X.env := by rfl)
    (hpl : (backTo pos (starEach es X.env)).any (·.1) = false := by rfl) : El X O M ρ (.Call (.Name x p1) (e :: es) [] pos) (fs.map .d) := fun B σ H S Q q => by
  obtain ⟨f, fd, F, hm, hk, hb⟩ := F.ex
  refine wE_of (pe_call F hr hg hm hk hb .nil pass0 pa_w hdb he hpl) (ha B σ H S _ fun vs B1 H1 e1 S1 r1 => ?_)
  show spL X.K R (vs ++ []) H1 Q E0
  rw [List.append_nil]
  refine ⟨B1, ds, fs, S1.bh, Los.da r1, h, fun p xs B2 H2 n h1 h2 h3 r => ?_⟩
  have S2 := S1.step n
  refine q p B2 H2 (S1.fresh h1) (e1.trans n.bb) ⟨S2.nx, S2.lb, fun z hz => ?_, ?_, S2.sl⟩
  · rcases List.mem_cons.mp hz with rfl | hz
    · exact ⟨h2, ⟨_, h3, xs, rfl, Los.of_da r⟩, .inr (S1.fresh h1)⟩
    · exact S2.own z hz
  · show (p :: M.map (·.1)).Nodup
    refine List.nodup_cons.mpr ⟨fun hm => ?_, S2.nd⟩
    obtain ⟨z, hz, ez⟩ := List.mem_map.mp hm
    obtain ⟨_, ⟨u, g2, _⟩, _⟩ := S1.own z hz
    rw [ez, h1] at g2
    cases g2
/-- a built-in by its name -/
theorem ed_callB {x : Str} {id : String} {r : List V → Hp → VK → Prop} {ls : List Lo} (hc : CallR X (.builtin id) r) (hm : X.mg x = none) (ha : Ea X O M ρ (e :: es) ls) (hd : Rc X.K O M ρ r ls l) (hv : bootBuiltins x = some (.builtin id) := by decide +kernel)
    (hg : Gl X x := by rfl) (hn : x ≠ "__name__" := by decide) (hdb : (x == ("__debug__" : Str)) = false := by decide)
    (he : starEach (e :: es) X.env = (false, eval e X.env) :: starEach es X.env := by rfl) (hpl : (backTo pos (starEach es X.env)).any (·.1) = false := by rfl) : Ed X O M ρ (.Call (.Name x p1) (e :: es) [] pos) l := fun B σ H S Q q =>
  wE_of (pe_callB hc hg hm hv pa_w hn hdb he hpl) (ha B σ H S _ fun vs B1 H1 e1 S1 r1 => hd B1 σ H1 S1 vs r1 Q fun v B2 H2 e2 S2 r2 => q v B2 H2 (e1.trans e2) S2 r2)
theorem ed_callT {x : Str} {T : String} {r : List V → Hp → VK → Prop} {ls : List Lo} (hc : CallR X (.type T) r) (hm : X.mg x = none) (ha : Ea X O M ρ (e :: es) ls) (hd : Rc X.K O M ρ r ls l) (hv : bootBuiltins x = some (.type T) := by decide +kernel)
    (hg : Gl X x := by rfl) (hn : x ≠ "__name__" := by decide) (hdb : (x == ("__debug__" : Str)) = false := by decide)
    (he : starEach (e :: es) X.env = (false, eval e X.env) :: starEach es X.env := by rfl) (hpl : (backTo pos (starEach es X.env)).any (·.1) = false := by rfl) : Ed X O M ρ (.Call (.Name x p1) (e :: es) [] pos) l := fun B σ H S Q q =>
  wE_of (pe_callTy hc hg hm hv pa_w hn hdb he hpl) (ha B σ H S _ fun vs B1 H1 e1 S1 r1 => hd B1 σ H1 S1 vs r1 Q fun v B2 H2 e2 S2 r2 => q v B2 H2 (e1.trans e2) S2 r2)
theorem el_callB {x : Str} {id : String} {r : List V → Hp → VK → Prop} {ls ks : List Lo} (hc : CallR X (.builtin id) r) (hm : X.mg x = none) (ha : Ea X O M ρ (e :: es) ls) (hd : RcL X.K O M ρ r ls ks) (hv : bootBuiltins x = some (.builtin id) := by decide +kernel)
    (hg : Gl X x := by rfl) (hn : x ≠ "__name__" := by decide) (hdb : (x == ("__debug__" : Str)) = false := by decide)
    (he : starEach (e :: es) X.env = (false, eval e X.env) :: starEach es X.env := by rfl) (hpl : (backTo pos (starEach es X.env)).any (·.1) = false := by rfl) : El X O M ρ (.Call (.Name x p1) (e :: es) [] pos) ks := fun B σ H S Q q =>
  wE_of (pe_callB hc hg hm hv pa_w hn hdb he hpl) (ha B σ H S _ fun vs B1 H1 e1 S1 r1 => hd B1 σ H1 S1 vs r1 Q fun v B2 H2 hO e2 S2 => q v B2 H2 hO (e1.trans e2) S2)
theorem el_callT {x : Str} {T : String} {r : List V → Hp → VK → Prop} {ls ks : List Lo} (hc : CallR X (.type T) r) (hm : X.mg x = none) (ha : Ea X O M ρ (e :: es) ls) (hd : RcL X.K O M ρ r ls ks) (hv : bootBuiltins x = some (.type T) := by decide +kernel)
    (hg : Gl X x := by rfl) (hn : x ≠ "__name__" := by decide) (hdb : (x == ("__debug__" : Str)) = false := by decide)
    (he : starEach (e :: es) X.env = (false, eval e X.env) :: starEach es X.env := by rfl) (hpl : (backTo pos (starEach es X.env)).any (·.1) = false := by rfl) : El X O M ρ (.Call (.Name x p1) (e :: es) [] pos) ks := fun B σ H S Q q =>
  wE_of (pe_callTy hc hg hm hv pa_w hn hdb he hpl) (ha B σ H S _ fun vs B1 H1 e1 S1 r1 => hd B1 σ H1 S1 vs r1 Q fun v B2 H2 hO e2 S2 => q v B2 H2 hO (e1.trans e2) S2)
/-- len -/
theorem rc_lenD {d : PyData} {ds : List PyData} (h : d = .list ds ∨ d = .tuple ds) : Rc X.K O M ρ (fun xs H Q => ∃ p ys, xs = [V.ref p] ∧ (SqL X.K H p ys ∨ SqT X.K H p ys) ∧ Q (.int ys.length) H) [.d d] (.d (.int ds.length)) := fun B σ H S vs r Q q => by
  cases r with
  | cons r1 r2 =>
    cases r2
    rcases h with rfl | rfl
    · cases r1 with
      | lst h1 h2 => exact ⟨_, _, rfl, .inl (SqL.of (S.bh _ _ h1)), q _ B H (Same.refl _) S (by rw [h2.length]; exact .int _)⟩
    · cases r1 with
      | tup h1 h2 => exact ⟨_, _, rfl, .inr (sqt_mono S.bh h1), q _ B H (Same.refl _) S (by rw [h2.length]; exact .int _)⟩
theorem rc_lenO {p : Addr} {ls : List Lo} (hm : (p, Own.lst ls) ∈ M) : Rc X.K O M ρ (fun xs H Q => ∃ p ys, xs = [V.ref p] ∧ (SqL X.K H p ys ∨ SqT X.K H p ys) ∧ Q (.int ys.length) H) [.v (.ref p)] (.d (.int ls.length)) := fun B σ H S vs r Q q => by
  cases r with
  | cons r1 r2 =>
    cases r2
    cases r1
    obtain ⟨h1, ⟨o, h2, xs, rfl, h3⟩, h4⟩ := S.own _ hm
    exact ⟨p, _, rfl, .inl (SqL.of h2), q _ B H (Same.refl _) S (by rw [Paired.len h3]; exact .int _)⟩
theorem ed_lenL {ds : List PyData} (hm : X.mg "len" = none) (h : Ed X O M ρ e (.d (.list ds))) (hg : Gl X "len" := by rfl) (he : starEach [e] X.env = (false, eval e X.env) :: starEach [] X.env := by rfl) : Ed X O M ρ (.Call (.Name "len" p1) [e] [] pos) (.d (.int ds.length)) :=
  ed_callB call_len_seq hm (ea_cons h ea_nil he) (rc_lenD (.inl rfl)) boot_len hg (by decide) (by decide) he
theorem ed_lenT {ds : List PyData} (hm : X.mg "len" = none) (h : Ed X O M ρ e (.d (.tuple ds))) (hg : Gl X "len" := by rfl) (he : starEach [e] X.env = (false, eval e X.env) :: starEach [] X.env := by rfl) : Ed X O M ρ (.Call (.Name "len" p1) [e] [] pos) (.d (.int ds.length)) :=
  ed_callB call_len_seq hm (ea_cons h ea_nil he) (rc_lenD (.inr rfl)) boot_len hg (by decide) (by decide) he
theorem ed_lenO {p : Addr} {ls : List Lo} (hm : X.mg "len" = none) (h : Ed X O M ρ e (.v (.ref p))) (hp : (p, Own.lst ls) ∈ M) (hg : Gl X "len" := by rfl) (he : starEach [e] X.env = (false, eval e X.env) :: starEach [] X.env := by rfl) : Ed X O M ρ (.Call (.Name "len" p1) [e] [] pos) (.d (.int ls.length)) :=
  ed_callB call_len_seq hm (ea_cons h ea_nil he) (rc_lenO hp) boot_len hg (by decide) (by decide) he

/-! ### statements -/
def thn (X : Cx) (D : Ends) (rest : List Stmt) : Ends := { D with nx := wSs X rest D }
theorem go_cons (h : ∀ B σ H, Sit X.K O B M ρ σ H → wS X st (thn X D rest) σ H) : Go X O M ρ D (st :: rest) := fun B σ H S => wSs_of (pss_cons ps_w pss_w) (h B σ H S)
theorem go_nil (h : ∀ B σ H, Sit X.K O B M ρ σ H → D.nx σ H) : Go X O M ρ D [] := fun B σ H S => wSs_of pss_nil (h B σ H S)
theorem go_thn (h : Go X O M ρ D rest) : Go X O M ρ (thn X D rest) [] := go_nil h
theorem go_asg (i : Nat) {x : Str} (nd : X.N.Nodup) (he : Ed X O M ρ e l) (k : Go X O M (ρ.set i l) D rest) (hi : X.N[i]? = some x := by rfl) (hx : L2.Loc X.env.scope x := by first | exact Or.inl rfl | exact Or.inr rfl)
    (hs : swapsWith e (some (.Name x p1)) pos.line X.env = pure false := by rfl) (hf : X.fn x = true ∨ X.env.scope.names.lookup x = some .local := by first | exact .inl rfl | exact .inr rfl) : Go X O M ρ D (.Assign [.Name x p1] e pos :: rest) :=
  go_cons fun B σ H S => wS_of (ps_set nd hi hx pe_w hs hf) (he B σ H S _ fun v B1 H1 e1 S1 r1 => k B1 _ H1 (S1.slot i r1))
theorem go_asgV (i : Nat) {x : Str} {Φ : Lo → Prop} (nd : X.N.Nodup) (he : Ev X O M ρ e Φ) (k : ∀ l, Φ l → Go X O M (ρ.set i l) D rest) (hi : X.N[i]? = some x := by rfl) (hx : L2.Loc X.env.scope x := by first | exact Or.inl rfl | exact Or.inr rfl)
    (hs : swapsWith e (some (.Name x p1)) pos.line X.env = pure false := by rfl) (hf : X.fn x = true ∨ X.env.scope.names.lookup x = some .local := by first | exact .inl rfl | exact .inr rfl) : Go X O M ρ D (.Assign [.Name x p1] e pos :: rest) :=
  go_cons fun B σ H S => wS_of (ps_set nd hi hx pe_w hs hf) (he B σ H S _ fun v l B1 H1 f1 e1 S1 r1 => k l f1 B1 _ H1 (S1.slot i r1))
/-- x = a new list, of its own -/
theorem go_asgL (i : Nat) {x : Str} {ls : List Lo} (nd : X.N.Nodup) (he : El X O M ρ e ls) (k : ∀ a, O.H a = none → Go X O ((a, .lst ls) :: M) (ρ.set i (.v (.ref a))) D rest) (hi : X.N[i]? = some x := by rfl) (hx : L2.Loc X.env.scope x := by first | exact Or.inl rfl | exact Or.inr rfl)
    (hs : swapsWith e (some (.Name x p1)) pos.line X.env = pure false := by rfl) (hf : X.fn x = true ∨ X.env.scope.names.lookup x = some .local := by first | exact .inl rfl | exact .inr rfl) : Go X O M ρ D (.Assign [.Name x p1] e pos :: rest) :=
  go_cons fun B σ H S => wS_of (ps_set nd hi hx pe_w hs hf) (he B σ H S _ fun p B1 H1 hO e1 S1 => k p hO B1 _ H1 (S1.slot i rfl))
theorem go_ret {d : PyData} (he : Ed X O M ρ e (.d d)) (hq : RetOk X.K O D d) : Go X O M ρ D (.Return (some e) pos :: rest) :=
  go_cons fun B σ H S => wS_of (ps_ret pe_w) (he B σ H S _ fun v B1 H1 e1 S1 r1 => hq B1 H1 v S1.nx r1)
theorem go_if {k : Bool} (hc : Et X O M ρ c k) (h1 : k = true → Go X O M ρ (thn X D rest) tb) (h2 : k = false → Go X O M ρ (thn X D rest) fb) : Go X O M ρ D (.If c tb fb pos :: rest) :=
  go_cons fun B σ H S => wS_of (ps_if pt_w pss_w pss_w) (hc B σ H S _ fun B1 H1 e1 S1 => by
    cases k with
    | true => exact iteT (h1 rfl B1 σ H1 S1)
    | false => exact iteF (h2 rfl B1 σ H1 S1))
/-- if without else -/
theorem go_when {k : Bool} (hc : Et X O M ρ c k) (h1 : k = true → Go X O M ρ (thn X D rest) tb) (h2 : k = false → Go X O M ρ D rest) : Go X O M ρ D (.If c tb [] pos :: rest) := go_if hc h1 fun q => go_thn (h2 q)
theorem go_skip (hc : Et X O M ρ c false) (h2 : Go X O M ρ D rest) : Go X O M ρ D (.If c tb [] pos :: rest) := go_when hc (fun q => by cases q) fun _ => h2
theorem go_take (hc : Et X O M ρ c true) (h1 : Go X O M ρ (thn X D rest) tb) : Go X O M ρ D (.If c tb fb pos :: rest) := go_if hc (fun _ => h1) fun q => by cases q
/-- a call for its effect: nothing is kept of its value -/
theorem go_drop (he : Ed X O M ρ e l) (k : Go X O M ρ D rest) (hs : swapsWith e none pos.line X.env = pure false := by rfl) : Go X O M ρ D (.Expr e pos :: rest) :=
  go_cons fun B σ H S => wS_of (ps_expr pe_w hs) (he B σ H S _ fun v B1 H1 e1 S1 r1 => k B1 σ H1 S1)
/-- some slots are known as less -/
theorem Go.wk {ρ' : List Lo} (h : Go X O M ρ' D rest) (w : Paired (fun a b => b = Lo.no ∨ b = a) ρ ρ') : Go X O M ρ D rest := fun B σ H S => h B σ H ⟨S.nx, S.lb, S.own, S.nd, by
  have go : ∀ {ρ ρ' : List Lo} {σ : L2.St}, Paired (fun a b => b = Lo.no ∨ b = a) ρ ρ' → Sls X.K B σ ρ → Sls X.K B σ ρ' := by
    intro ρ ρ' σ w
    induction w generalizing σ with
    | nil => intro h; exact h
    | cons r _ ih =>
      intro h
      cases h with
      | cons h1 h2 =>
        rcases r with rfl | rfl
        · exact .cons (by rename_i v _; cases v <;> trivial) (ih h2)
        · exact .cons h1 (ih h2)
  exact go w S.sl⟩
/-- some own objects are let go -/
theorem Go.drop {M' : Owns} (h : Go X O M' ρ D rest) (w : M'.Sublist M) : Go X O M ρ D rest := fun B σ H S => h B σ H ⟨S.nx, S.lb, fun p hp => S.own p (w.subset hp), S.nd.sublist (w.map _), S.sl⟩
/-- an own list becomes data, under the slot i -/
theorem go_freeze (j i : Nat) {p : Addr} {ds : List PyData} {D : Ends} {sts : List Stmt} (hO : O.H p = none) (k : Go X O (M.eraseIdx j) (ρ.set i (.d (.list ds))) D sts) (hj : M[j]? = some (p, .lst (ds.map .d)) := by rfl) (hi : ρ[i]? = some (.v (.ref p)) := by rfl) : Go X O M ρ D sts := fun B σ H S => by
  obtain ⟨h1, ⟨o, h2, xs, rfl, h3⟩, h4⟩ := S.own _ (List.mem_of_getElem? hj)
  obtain ⟨v, g1, g2⟩ := Paired.at2 S.sl hi
  have hb : Same B (upd B p (.lst xs)) := fun b u q => by rw [upd_ne (ne_of_none q h1)]; exact q
  cases v with
  | none => exact g2.elim
  | some v =>
    have ev : v = .ref p := g2
    subst ev
    have z := (S.freeze j hj h2 hO).slot i (l := .d (.list ds)) (v := .ref p) (.lst upd_same ((Los.da h3).mono hb))
    rw [set_self g1] at z
    exact k _ σ H z
/-- l.append(e), l an own list in slot i -/
theorem go_append (j i : Nat) {p : Addr} {ls : List Lo} {o : Expr} {ap cp : Pos} (ho : Ed X O M ρ o (.v (.ref p))) (hj : M[j]? = some (p, .lst ls)) (he : Ed X O M ρ e l) (hz : ls.length < 100000) (k : Go X O (M.set j (p, .lst (ls ++ [l]))) ρ D rest)
    (hbase : attributeBase o "append" X.env (eval o X.env) = eval o X.env := by rfl)
    (hfew : ((backTo cp (starEach [e] X.env)).all (fun x => !x.1) && (backToKw cp (keywordEach [] X.env)).all (fun x => x.1.isSome)
      && decide ([e].length + ([] : List Keyword).length + (if ([] : List Keyword).isEmpty then 0 else 1) < 30)) = true := by rfl)
    (hline : (ap.endLine == cp.line) = true := by rfl) (hs : starEach [e] X.env = (false, eval e X.env) :: starEach [] X.env := by rfl)
    (hsw : swapsWith (.Call (.Attribute o "append" ap) [e] [] cp) none pos.line X.env = pure false := by rfl) : Go X O M ρ D (.Expr (.Call (.Attribute o "append" ap) [e] [] cp) pos :: rest) :=
  go_cons fun B σ H S => wS_of (ps_expr (pe_bm PySem.F.plainAttrs_list PySem.F.slot_list_append PySem.F.type_list_append mt_append pe_w (pa_cons pe_w pa_nil hs) hbase hfew hline hs) hsw)
    (ho B σ H S _ fun v B1 H1 e1 S1 r1 => by
      have ev : v = .ref p := r1
      subst ev
      obtain ⟨_, ⟨_, h2, xs, rfl, _⟩, _⟩ := S1.own _ (List.mem_of_getElem? hj)
      refine ⟨.inl ⟨rfl, _, SqL.of h2⟩, he B1 σ H1 S1 _ fun y B2 H2 e2 S2 r2 => ?_⟩
      obtain ⟨_, ⟨_, h2, xs, rfl, h3⟩, _⟩ := S2.own _ (List.mem_of_getElem? hj)
      refine ⟨p, xs, y, rfl, rfl, h2, Nat.lt_of_lt_of_le (by rw [Paired.len h3]; exact hz) (by decide), ?_⟩
      exact k B2 σ _ (S2.write j hj ⟨_, rfl, Paired.app h3 (.cons r2 .nil)⟩))
/-- l.extend(ys), ys data -/
theorem go_extend (j i : Nat) {p : Addr} {ls : List Lo} {ds : List PyData} {o : Expr} {ap cp : Pos} (ho : Ed X O M ρ o (.v (.ref p))) (hj : M[j]? = some (p, .lst ls)) (he : Ed X O M ρ e (.d (.list ds))) (hz : ls.length + ds.length ≤ 100000) (k : Go X O (M.set j (p, .lst (ls ++ ds.map .d))) ρ D rest)
    (hbase : attributeBase o "extend" X.env (eval o X.env) = eval o X.env := by rfl)
    (hfew : ((backTo cp (starEach [e] X.env)).all (fun x => !x.1) && (backToKw cp (keywordEach [] X.env)).all (fun x => x.1.isSome)
      && decide ([e].length + ([] : List Keyword).length + (if ([] : List Keyword).isEmpty then 0 else 1) < 30)) = true := by rfl)
    (hline : (ap.endLine == cp.line) = true := by rfl) (hs : starEach [e] X.env = (false, eval e X.env) :: starEach [] X.env := by rfl)
    (hsw : swapsWith (.Call (.Attribute o "extend" ap) [e] [] cp) none pos.line X.env = pure false := by rfl) : Go X O M ρ D (.Expr (.Call (.Attribute o "extend" ap) [e] [] cp) pos :: rest) :=
  go_cons fun B σ H S => wS_of (ps_expr (pe_bm PySem.F.plainAttrs_list PySem.F.slot_list_extend PySem.F.type_list_extend mt_extend pe_w (pa_cons pe_w pa_nil hs) hbase hfew hline hs) hsw)
    (ho B σ H S _ fun v B1 H1 e1 S1 r1 => by
      have ev : v = .ref p := r1
      subst ev
      obtain ⟨_, ⟨_, h2, xs, rfl, _⟩, _⟩ := S1.own _ (List.mem_of_getElem? hj)
      refine ⟨.inl ⟨rfl, _, SqL.of h2⟩, he B1 σ H1 S1 _ fun y B2 H2 e2 S2 r2 => ?_⟩
      obtain ⟨_, ⟨_, h2, xs, rfl, h3⟩, _⟩ := S2.own _ (List.mem_of_getElem? hj)
      cases r2 with
      | lst g1 g2 =>
        refine ⟨p, _, xs, _, rfl, rfl, h2, S2.bh _ _ g1, size_line (by rw [Paired.len h3, g2.length]; exact hz), ?_⟩
        exact k B2 σ _ (S2.write j hj ⟨_, rfl, Paired.app h3 (Los.of_da g2)⟩))
/-- x = l.pop(), l an own list -/
theorem go_pop (j i : Nat) {x : Str} {p : Addr} {ls : List Lo} {o : Expr} {ap cp : Pos} (nd : X.N.Nodup) (ho : Ed X O M ρ o (.v (.ref p))) (hj : M[j]? = some (p, .lst (ls ++ [l]))) (k : Go X O (M.set j (p, .lst ls)) (ρ.set i l) D rest)
    (hi : X.N[i]? = some x := by rfl) (hx : L2.Loc X.env.scope x := by first | exact Or.inl rfl | exact Or.inr rfl) (hf : X.fn x = true ∨ X.env.scope.names.lookup x = some .local := by first | exact .inl rfl | exact .inr rfl)
    (hbase : attributeBase o "pop" X.env (eval o X.env) = eval o X.env := by rfl) (hline : (ap.endLine == cp.line) = true := by rfl)
    (hs : swapsWith (.Call (.Attribute o "pop" ap) [] [] cp) (some (.Name x p1)) pos.line X.env = pure false := by rfl) : Go X O M ρ D (.Assign [.Name x p1] (.Call (.Attribute o "pop" ap) [] [] cp) pos :: rest) :=
  go_cons fun B σ H S => wS_of (ps_set nd hi hx (pe_bm0 PySem.F.plainAttrs_list PySem.F.slot_list_pop PySem.F.type_list_pop mt_pop pe_w hbase hline) hs hf)
    (ho B σ H S _ fun v B1 H1 e1 S1 r1 => by
      have ev : v = .ref p := r1
      subst ev
      obtain ⟨_, ⟨_, h2, xs, rfl, h3⟩, _⟩ := S1.own _ (List.mem_of_getElem? hj)
      have hl := Paired.len h3
      rw [List.length_append, List.length_singleton] at hl
      obtain ⟨y, g1, g2⟩ := Paired.at2 (i := ls.length) (b := l) h3 (by rw [List.getElem?_append_right (Nat.le_refl _), Nat.sub_self]; rfl)
      refine ⟨.inl ⟨rfl, _, SqL.of h2⟩, p, xs, y, rfl, rfl, h2, by rw [hl, Nat.add_sub_cancel]; exact g1, ?_⟩
      refine k B1 _ _ ((S1.write j hj (w' := .lst ls) ⟨_, rfl, ?_⟩).slot i g2)
      have q : ∀ {us : List V} {ms : List Lo} {m : Lo}, Los X.K B1 us (ms ++ [m]) → Los X.K B1 us.dropLast ms := by
        intro us ms
        induction ms generalizing us with
        | nil => intro m h; cases h with
          | cons _ h2 => cases h2; exact .nil
        | cons y r ih => intro m h; cases h with
          | cons h1 h2 =>
            rename_i u us
            have hne : us ≠ [] := fun z => by have := Paired.len h2; rw [z] at this; simp at this
            rw [List.dropLast_cons_of_ne_nil hne]
            exact .cons h1 (ih h2)
      exact q h3)
/-- l[i] = e, l an own list -/
theorem go_setItem (j : Nat) {p : Addr} {ls : List Lo} {o ix : Expr} {q : Nat} {p4 : Pos} (he : Ed X O M ρ e l) (ho : Ed X O M ρ o (.v (.ref p))) (hj : M[j]? = some (p, .lst ls)) (hix : Ed X O M ρ ix (.d (.int q))) (hq : q < ls.length)
    (k : Go X O (M.set j (p, .lst (ls.set q l))) ρ D rest) (hg : PG X (.Subscript o ix p4) (gSub (wE X o) (wE X ix) rSetL) := by exact pg_sub pe_w pe_w set_list) (hs : swapsWithSole [.Subscript o ix p4] e pos.line X.env = pure false := by rfl) (hw : swappedStores [.Subscript o ix p4] e X.env = pure none := by rfl) : Go X O M ρ D (.Assign [.Subscript o ix p4] e pos :: rest) :=
  go_cons fun B σ H S => wS_of (ps_asg pe_w hg hs hw) (he B σ H S _ fun v B1 H1 e1 S1 r1 => ho B1 σ H1 S1 _ fun y B2 H2 e2 S2 r2 => by
    have ev : y = .ref p := r2
    subst ev
    refine hix B2 σ H2 S2 _ fun z B3 H3 e3 S3 r3 => ?_
    cases r3
    obtain ⟨_, ⟨_, h2, xs, rfl, h3⟩, _⟩ := S3.own _ (List.mem_of_getElem? hj)
    have hl := Paired.len h3
    refine ⟨p, xs, q, q, rfl, rfl, h2, ?_, ?_⟩
    · unfold ixN
      rw [if_pos (by omega), if_pos (by omega)]
      simp
    · exact k B3 σ _ (S3.write j hj ⟨_, rfl, Paired.set2 (F := fun v l => LoOk X.K B3 (some v) l) ((r1.mono e2).mono e3) q h3⟩))
end
end K32

set_option maxRecDepth 100000
set_option maxHeartbeats 4000000
namespace K32
open PySem L2
/-- what the top has left, as the head shows it -/
structure Tx (w : World) (K : PySem.W.Frag) (mg : Str → Option Value) : Prop where
  h : ∃ h, K.In h ∧ h.Ns mainGlobals mg
  c : obsK K = valK w
section
variable {w : World} {K : PySem.W.Frag} {mg : Str → Option Value} (T : Tx w K mg)
include T
theorem Tx.tt : He.SaysT fas fns tabs w K := congrArg (fun z : AlK => z.1) T.c
theorem Tx.glo (i : Nat) {x : Str} (h : fas[i]? = some (.glo x) := by rfl) : mg x = some (.ref (He.ga K x)) := let ⟨_, X, G⟩ := T.h; He.glo_ok X G (T.tt.d.fact i h)
theorem Tx.free (i : Nat) {x : Str} (h : fas[i]? = some (.free x) := by rfl) : mg x = none := let ⟨_, X, G⟩ := T.h; He.free_ok X G (T.tt.d.fact i h)
theorem Tx.int (i : Nat) {x : Str} {n : Int} (h : fas[i]? = some (.int x n) := by rfl) : ∃ t, mg x = some (.int n t) := let ⟨_, X, G⟩ := T.h; He.int_ok X G (T.tt.d.fact i h)
theorem Tx.str (i : Nat) {x z : Str} (h : fas[i]? = some (.str x z) := by rfl) : ∃ t, mg x = some (.str z t) := let ⟨_, X, G⟩ := T.h; He.str_ok X G (T.tt.d.fact i h)
theorem Tx.fact (i : Nat) {f : He.Fa} (h : fas[i]? = some f := by rfl) : f.ok K = true := T.tt.d.fact i h
theorem Tx.fn (i : Nat) {d : He.DefD} (h : fns[i]? = some d := by rfl) : ∃ fd, FunD K d.name d.qual d.params d.body d.scope (d.dvs K) (d.kws K) (He.fAd K d.at_) fd := T.tt.d.def_ i h
theorem Tx.xs (i : Nat) {f : PySem.W.Frag → Bool} (h : xs0[i]? = some f := by rfl) : f K = true := List.all_eq_true.mp (congrArg (fun z : AlK => z.2) T.c) f (List.mem_of_getElem? h)
end
section
variable {w : World} {K : PySem.W.Frag} {mg : Str → Option Value}
theorem g_is_integer (T : Tx w K mg) : mg "is_integer" = some (.ref (He.ga K "is_integer")) := T.glo 0
theorem g_is_count (T : Tx w K mg) : mg "is_count" = some (.ref (He.ga K "is_count")) := T.glo 1
theorem g_is_list (T : Tx w K mg) : mg "is_list" = some (.ref (He.ga K "is_list")) := T.glo 2
theorem g_want_at_most (T : Tx w K mg) : mg "want_at_most" = some (.ref (He.ga K "want_at_most")) := T.glo 3
theorem g_is_leaf (T : Tx w K mg) : mg "is_leaf" = some (.ref (He.ga K "is_leaf")) := T.glo 4
theorem g_is_letter_word (T : Tx w K mg) : mg "is_letter_word" = some (.ref (He.ga K "is_letter_word")) := T.glo 5
theorem g_is_letter (T : Tx w K mg) : mg "is_letter" = some (.ref (He.ga K "is_letter")) := T.glo 6
theorem g_is_branch (T : Tx w K mg) : mg "is_branch" = some (.ref (He.ga K "is_branch")) := T.glo 7
theorem g_is_kind (T : Tx w K mg) : mg "is_kind" = some (.ref (He.ga K "is_kind")) := T.glo 8
theorem g_is_node (T : Tx w K mg) : mg "is_node" = some (.ref (He.ga K "is_node")) := T.glo 9
theorem g_are_tree (T : Tx w K mg) : mg "are_tree" = some (.ref (He.ga K "are_tree")) := T.glo 10
theorem g_is_term (T : Tx w K mg) : mg "is_term" = some (.ref (He.ga K "is_term")) := T.glo 11
theorem g_want_position (T : Tx w K mg) : mg "want_position" = some (.ref (He.ga K "want_position")) := T.glo 12
theorem g_ends_of (T : Tx w K mg) : mg "ends_of" = some (.ref (He.ga K "ends_of")) := T.glo 13
theorem g_binders_around (T : Tx w K mg) : mg "binders_around" = some (.ref (He.ga K "binders_around")) := T.glo 14
theorem g_lifted_nodes (T : Tx w K mg) : mg "lifted_nodes" = some (.ref (He.ga K "lifted_nodes")) := T.glo 15
theorem g_nodes_put (T : Tx w K mg) : mg "nodes_put" = some (.ref (He.ga K "nodes_put")) := T.glo 16
theorem g_row_of (T : Tx w K mg) : mg "row_of" = some (.ref (He.ga K "row_of")) := T.glo 17
theorem g_kind_in (T : Tx w K mg) : mg "kind_in" = some (.ref (He.ga K "kind_in")) := T.glo 18
theorem g_kind_of_leaf (T : Tx w K mg) : mg "kind_of_leaf" = some (.ref (He.ga K "kind_of_leaf")) := T.glo 19
theorem g_kind_of_part (T : Tx w K mg) : mg "kind_of_part" = some (.ref (He.ga K "kind_of_part")) := T.glo 20
theorem g_kind_of_call (T : Tx w K mg) : mg "kind_of_call" = some (.ref (He.ga K "kind_of_call")) := T.glo 21
theorem g_kind_of_turns (T : Tx w K mg) : mg "kind_of_turns" = some (.ref (He.ga K "kind_of_turns")) := T.glo 22
theorem g_kind_of_few (T : Tx w K mg) : mg "kind_of_few" = some (.ref (He.ga K "kind_of_few")) := T.glo 23
theorem g_kind_by (T : Tx w K mg) : mg "kind_by" = some (.ref (He.ga K "kind_by")) := T.glo 24
theorem g_bound_kind (T : Tx w K mg) : mg "bound_kind" = some (.ref (He.ga K "bound_kind")) := T.glo 25
theorem g_next_row (T : Tx w K mg) : mg "next_row" = some (.ref (He.ga K "next_row")) := T.glo 26
theorem g_finished (T : Tx w K mg) : mg "finished" = some (.ref (He.ga K "finished")) := T.glo 27
theorem g_kinds_of (T : Tx w K mg) : mg "kinds_of" = some (.ref (He.ga K "kinds_of")) := T.glo 28
theorem g_fitting_kinds (T : Tx w K mg) : mg "fitting_kinds" = some (.ref (He.ga K "fitting_kinds")) := T.glo 29
theorem g_is_program (T : Tx w K mg) : mg "is_program" = some (.ref (He.ga K "is_program")) := T.glo 30
theorem g_want_program (T : Tx w K mg) : mg "want_program" = some (.ref (He.ga K "want_program")) := T.glo 31
theorem g_program_kind (T : Tx w K mg) : mg "program_kind" = some (.ref (He.ga K "program_kind")) := T.glo 32
theorem g_held_marks (T : Tx w K mg) : mg "held_marks" = some (.ref (He.ga K "held_marks")) := T.glo 33
theorem g_is_rule_at (T : Tx w K mg) : mg "is_rule_at" = some (.ref (He.ga K "is_rule_at")) := T.glo 34
theorem g_rules_at (T : Tx w K mg) : mg "rules_at" = some (.ref (He.ga K "rules_at")) := T.glo 35
theorem g_by_turns (T : Tx w K mg) : mg "by_turns" = some (.ref (He.ga K "by_turns")) := T.glo 36
theorem g_by_which (T : Tx w K mg) : mg "by_which" = some (.ref (He.ga K "by_which")) := T.glo 37
theorem g_by_long (T : Tx w K mg) : mg "by_long" = some (.ref (He.ga K "by_long")) := T.glo 38
theorem g_by_word (T : Tx w K mg) : mg "by_word" = some (.ref (He.ga K "by_word")) := T.glo 39
theorem g_after_step (T : Tx w K mg) : mg "after_step" = some (.ref (He.ga K "after_step")) := T.glo 40
theorem g_is_first_at (T : Tx w K mg) : mg "is_first_at" = some (.ref (He.ga K "is_first_at")) := T.glo 41
theorem g_stepped (T : Tx w K mg) : mg "stepped" = some (.ref (He.ga K "stepped")) := T.glo 42
theorem g__law_pot (T : Tx w K mg) : mg "_law_pot" = some (.ref (He.ga K "_law_pot")) := T.glo 43
theorem g__law_draw (T : Tx w K mg) : mg "_law_draw" = some (.ref (He.ga K "_law_draw")) := T.glo 44
theorem g__law_pick (T : Tx w K mg) : mg "_law_pick" = some (.ref (He.ga K "_law_pick")) := T.glo 45
theorem g__law_binds (T : Tx w K mg) : mg "_law_binds" = some (.ref (He.ga K "_law_binds")) := T.glo 46
theorem g__law_tree (T : Tx w K mg) : mg "_law_tree" = some (.ref (He.ga K "_law_tree")) := T.glo 47
theorem g__law_flat (T : Tx w K mg) : mg "_law_flat" = some (.ref (He.ga K "_law_flat")) := T.glo 48
theorem g__law_lifted (T : Tx w K mg) : mg "_law_lifted" = some (.ref (He.ga K "_law_lifted")) := T.glo 49
theorem g__law_put (T : Tx w K mg) : mg "_law_put" = some (.ref (He.ga K "_law_put")) := T.glo 50
theorem g__law_kind (T : Tx w K mg) : mg "_law_kind" = some (.ref (He.ga K "_law_kind")) := T.glo 51
theorem g__law_bound (T : Tx w K mg) : mg "_law_bound" = some (.ref (He.ga K "_law_bound")) := T.glo 52
theorem g__law_plain_rules (T : Tx w K mg) : mg "_law_plain_rules" = some (.ref (He.ga K "_law_plain_rules")) := T.glo 53
theorem g__law_look (T : Tx w K mg) : mg "_law_look" = some (.ref (He.ga K "_law_look")) := T.glo 54
theorem g__law_steps (T : Tx w K mg) : mg "_law_steps" = some (.ref (He.ga K "_law_steps")) := T.glo 55
theorem g__law_long (T : Tx w K mg) : mg "_law_long" = some (.ref (He.ga K "_law_long")) := T.glo 56
theorem g__law_made (T : Tx w K mg) : mg "_law_made" = some (.ref (He.ga K "_law_made")) := T.glo 57
theorem g__law_stepped_in (T : Tx w K mg) : mg "_law_stepped_in" = some (.ref (He.ga K "_law_stepped_in")) := T.glo 58
theorem g__law_stepped (T : Tx w K mg) : mg "_law_stepped" = some (.ref (He.ga K "_law_stepped")) := T.glo 59
theorem g__law_drawn_kind (T : Tx w K mg) : mg "_law_drawn_kind" = some (.ref (He.ga K "_law_drawn_kind")) := T.glo 60
theorem g__law_ways (T : Tx w K mg) : mg "_law_ways" = some (.ref (He.ga K "_law_ways")) := T.glo 61
theorem g__law_calls (T : Tx w K mg) : mg "_law_calls" = some (.ref (He.ga K "_law_calls")) := T.glo 62
theorem g__law_head (T : Tx w K mg) : mg "_law_head" = some (.ref (He.ga K "_law_head")) := T.glo 63
theorem g__law_pair (T : Tx w K mg) : mg "_law_pair" = some (.ref (He.ga K "_law_pair")) := T.glo 64
theorem g__law_row (T : Tx w K mg) : mg "_law_row" = some (.ref (He.ga K "_law_row")) := T.glo 65
theorem g__law_around (T : Tx w K mg) : mg "_law_around" = some (.ref (He.ga K "_law_around")) := T.glo 66
theorem g__law_two (T : Tx w K mg) : mg "_law_two" = some (.ref (He.ga K "_law_two")) := T.glo 67
theorem g__law_is_made (T : Tx w K mg) : mg "_law_is_made" = some (.ref (He.ga K "_law_is_made")) := T.glo 68
theorem g__law_is_refused_right (T : Tx w K mg) : mg "_law_is_refused_right" = some (.ref (He.ga K "_law_is_refused_right")) := T.glo 69
theorem g__law_right (T : Tx w K mg) : mg "_law_right" = some (.ref (He.ga K "_law_right")) := T.glo 70
theorem g_law (T : Tx w K mg) : mg "law" = some (.ref (He.ga K "law")) := T.glo 71
theorem g_TermError (T : Tx w K mg) : mg "TermError" = some (.ref (He.ga K "TermError")) := T.glo 72
theorem g_StateError (T : Tx w K mg) : mg "StateError" = some (.ref (He.ga K "StateError")) := T.glo 73
theorem g_LimitError (T : Tx w K mg) : mg "LimitError" = some (.ref (He.ga K "LimitError")) := T.glo 74
theorem g_InvalidProgram (T : Tx w K mg) : mg "InvalidProgram" = some (.ref (He.ga K "InvalidProgram")) := T.glo 75
theorem g_InvalidPosition (T : Tx w K mg) : mg "InvalidPosition" = some (.ref (He.ga K "InvalidPosition")) := T.glo 76
theorem g_InvalidRule (T : Tx w K mg) : mg "InvalidRule" = some (.ref (He.ga K "InvalidRule")) := T.glo 77
theorem g_NoKind (T : Tx w K mg) : mg "NoKind" = some (.ref (He.ga K "NoKind")) := T.glo 78
theorem g_NoStep (T : Tx w K mg) : mg "NoStep" = some (.ref (He.ga K "NoStep")) := T.glo 79
theorem g_TooMany (T : Tx w K mg) : mg "TooMany" = some (.ref (He.ga K "TooMany")) := T.glo 80
theorem g_Frame (T : Tx w K mg) : mg "Frame" = some (.ref (He.ga K "Frame")) := T.glo 81
theorem b_isinstance (T : Tx w K mg) : mg "isinstance" = none := T.free 82
theorem b_int (T : Tx w K mg) : mg "int" = none := T.free 83
theorem b_bool (T : Tx w K mg) : mg "bool" = none := T.free 84
theorem b_list (T : Tx w K mg) : mg "list" = none := T.free 85
theorem b_tuple (T : Tx w K mg) : mg "tuple" = none := T.free 86
theorem b_str (T : Tx w K mg) : mg "str" = none := T.free 87
theorem b_len (T : Tx w K mg) : mg "len" = none := T.free 88
theorem b_all (T : Tx w K mg) : mg "all" = none := T.free 89
theorem b_range (T : Tx w K mg) : mg "range" = none := T.free 90
theorem b_enumerate (T : Tx w K mg) : mg "enumerate" = none := T.free 91
theorem b_zip (T : Tx w K mg) : mg "zip" = none := T.free 92
theorem b_sorted (T : Tx w K mg) : mg "sorted" = none := T.free 93
theorem b_min (T : Tx w K mg) : mg "min" = none := T.free 94
theorem b_max (T : Tx w K mg) : mg "max" = none := T.free 95
theorem b_abs (T : Tx w K mg) : mg "abs" = none := T.free 96
theorem b_sum (T : Tx w K mg) : mg "sum" = none := T.free 97
theorem b_divmod (T : Tx w K mg) : mg "divmod" = none := T.free 98
theorem b_repr (T : Tx w K mg) : mg "repr" = none := T.free 99
theorem c_LETTER (T : Tx w K mg) : ∃ t, mg "LETTER" = some (.str "letter" t) := T.str 100
theorem c_TELLING (T : Tx w K mg) : ∃ t, mg "TELLING" = some (.str "count" t) := T.str 101
theorem c_PAIR (T : Tx w K mg) : ∃ t, mg "PAIR" = some (.str "pair" t) := T.str 102
theorem c_SUM (T : Tx w K mg) : ∃ t, mg "SUM" = some (.str "sum" t) := T.str 103
theorem c_FUN (T : Tx w K mg) : ∃ t, mg "FUN" = some (.str "fun" t) := T.str 104
theorem c_MOST_LETTER (T : Tx w K mg) : ∃ t, mg "MOST_LETTER" = some (.int 5 t) := T.int 105
theorem c_MOST_SIGNS (T : Tx w K mg) : ∃ t, mg "MOST_SIGNS" = some (.int 60 t) := T.int 106
theorem c_MOST_DEEP (T : Tx w K mg) : ∃ t, mg "MOST_DEEP" = some (.int 12 t) := T.int 107
theorem c_NAME (T : Tx w K mg) : ∃ t, mg "NAME" = some (.str "name" t) := T.str 108
theorem c_TOLD (T : Tx w K mg) : ∃ t, mg "TOLD" = some (.str "told" t) := T.str 109
theorem c_MOST_NODES (T : Tx w K mg) : ∃ t, mg "MOST_NODES" = some (.int 300 t) := T.int 110
theorem c_MOST_OUT (T : Tx w K mg) : ∃ t, mg "MOST_OUT" = some (.int 299 t) := T.int 111
theorem c_MOST_TOLD (T : Tx w K mg) : ∃ t, mg "MOST_TOLD" = some (.int 1000000 t) := T.int 112
theorem g_BINDS (T : Tx w K mg) : mg "BINDS" = some (.ref (He.ga K "BINDS")) := T.glo 113
theorem g_WITH_KIND (T : Tx w K mg) : mg "WITH_KIND" = some (.ref (He.ga K "WITH_KIND")) := T.glo 114
theorem g_NUMBER (T : Tx w K mg) : mg "NUMBER" = some (.ref (He.ga K "NUMBER")) := T.glo 115
theorem g_RULES (T : Tx w K mg) : mg "RULES" = some (.ref (He.ga K "RULES")) := T.glo 116
theorem g_WANTED (T : Tx w K mg) : mg "WANTED" = some (.ref (He.ga K "WANTED")) := T.glo 117
theorem g_OPENED (T : Tx w K mg) : mg "OPENED" = some (.ref (He.ga K "OPENED")) := T.glo 118
abbrev N_is_integer : List Str := ["value"]
theorem sc_is_integer : FnScope N_is_integer ["value"] (defScope s_is_integer) := ⟨rfl, rfl, rfl, by decide +kernel, rfl, by decide +kernel, by decide +kernel⟩
theorem f_is_integer (T : Tx w K mg) : ∃ fd, FunD K "is_integer" "is_integer" (defArgs s_is_integer) (defBody s_is_integer) (defScope s_is_integer) [] [] (He.ga K "is_integer") fd := T.fn 0
abbrev N_is_count : List Str := ["value"]
theorem sc_is_count : FnScope N_is_count ["value"] (defScope s_is_count) := ⟨rfl, rfl, rfl, by decide +kernel, rfl, by decide +kernel, by decide +kernel⟩
theorem f_is_count (T : Tx w K mg) : ∃ fd, FunD K "is_count" "is_count" (defArgs s_is_count) (defBody s_is_count) (defScope s_is_count) [] [] (He.ga K "is_count") fd := T.fn 1
abbrev N_is_list : List Str := ["value"]
theorem sc_is_list : FnScope N_is_list ["value"] (defScope s_is_list) := ⟨rfl, rfl, rfl, by decide +kernel, rfl, by decide +kernel, by decide +kernel⟩
theorem f_is_list (T : Tx w K mg) : ∃ fd, FunD K "is_list" "is_list" (defArgs s_is_list) (defBody s_is_list) (defScope s_is_list) [] [] (He.ga K "is_list") fd := T.fn 2
abbrev N_want_at_most : List Str := ["what", "limit", "number"]
theorem sc_want_at_most : FnScope N_want_at_most ["what", "limit", "number"] (defScope s_want_at_most) := ⟨rfl, rfl, rfl, by decide +kernel, rfl, by decide +kernel, by decide +kernel⟩
theorem f_want_at_most (T : Tx w K mg) : ∃ fd, FunD K "want_at_most" "want_at_most" (defArgs s_want_at_most) (defBody s_want_at_most) (defScope s_want_at_most) [] [] (He.ga K "want_at_most") fd := T.fn 3
abbrev N_is_leaf : List Str := ["value"]
theorem sc_is_leaf : FnScope N_is_leaf ["value"] (defScope s_is_leaf) := ⟨rfl, rfl, rfl, by decide +kernel, rfl, by decide +kernel, by decide +kernel⟩
theorem f_is_leaf (T : Tx w K mg) : ∃ fd, FunD K "is_leaf" "is_leaf" (defArgs s_is_leaf) (defBody s_is_leaf) (defScope s_is_leaf) [] [] (He.ga K "is_leaf") fd := T.fn 4
abbrev N_is_letter_word : List Str := ["value"]
theorem sc_is_letter_word : FnScope N_is_letter_word ["value"] (defScope s_is_letter_word) := ⟨rfl, rfl, rfl, by decide +kernel, rfl, by decide +kernel, by decide +kernel⟩
theorem f_is_letter_word (T : Tx w K mg) : ∃ fd, FunD K "is_letter_word" "is_letter_word" (defArgs s_is_letter_word) (defBody s_is_letter_word) (defScope s_is_letter_word) [] [] (He.ga K "is_letter_word") fd := T.fn 5
abbrev N_is_letter : List Str := ["value"]
theorem sc_is_letter : FnScope N_is_letter ["value"] (defScope s_is_letter) := ⟨rfl, rfl, rfl, by decide +kernel, rfl, by decide +kernel, by decide +kernel⟩
theorem f_is_letter (T : Tx w K mg) : ∃ fd, FunD K "is_letter" "is_letter" (defArgs s_is_letter) (defBody s_is_letter) (defScope s_is_letter) [] [] (He.ga K "is_letter") fd := T.fn 6
abbrev N_is_branch : List Str := ["value"]
theorem sc_is_branch : FnScope N_is_branch ["value"] (defScope s_is_branch) := ⟨rfl, rfl, rfl, by decide +kernel, rfl, by decide +kernel, by decide +kernel⟩
theorem f_is_branch (T : Tx w K mg) : ∃ fd, FunD K "is_branch" "is_branch" (defArgs s_is_branch) (defBody s_is_branch) (defScope s_is_branch) [] [] (He.ga K "is_branch") fd := T.fn 7
abbrev N_is_kind : List Str := ["value", "left", "signs", "one", "deep"]
theorem sc_is_kind : FnScope N_is_kind ["value"] (defScope s_is_kind) := ⟨rfl, rfl, rfl, by decide +kernel, rfl, by decide +kernel, by decide +kernel⟩
theorem f_is_kind (T : Tx w K mg) : ∃ fd, FunD K "is_kind" "is_kind" (defArgs s_is_kind) (defBody s_is_kind) (defScope s_is_kind) [] [] (He.ga K "is_kind") fd := T.fn 8
abbrev N_is_node : List Str := ["value"]
theorem sc_is_node : FnScope N_is_node ["value"] (defScope s_is_node) := ⟨rfl, rfl, rfl, by decide +kernel, rfl, by decide +kernel, by decide +kernel⟩
theorem f_is_node (T : Tx w K mg) : ∃ fd, FunD K "is_node" "is_node" (defArgs s_is_node) (defBody s_is_node) (defScope s_is_node) [] [] (He.ga K "is_node") fd := T.fn 9
abbrev N_are_tree : List Str := ["nodes", "wanted", "node"]
theorem sc_are_tree : FnScope N_are_tree ["nodes"] (defScope s_are_tree) := ⟨rfl, rfl, rfl, by decide +kernel, rfl, by decide +kernel, by decide +kernel⟩
theorem f_are_tree (T : Tx w K mg) : ∃ fd, FunD K "are_tree" "are_tree" (defArgs s_are_tree) (defBody s_are_tree) (defScope s_are_tree) [] [] (He.ga K "are_tree") fd := T.fn 10
abbrev N_is_term : List Str := ["value", "node"]
theorem sc_is_term : FnScope N_is_term ["value"] (defScope s_is_term) := ⟨rfl, rfl, rfl, by decide +kernel, rfl, by decide +kernel, by decide +kernel⟩
theorem f_is_term (T : Tx w K mg) : ∃ fd, FunD K "is_term" "is_term" (defArgs s_is_term) (defBody s_is_term) (defScope s_is_term) [] [] (He.ga K "is_term") fd := T.fn 11
abbrev N_want_position : List Str := ["nodes", "value"]
theorem sc_want_position : FnScope N_want_position ["nodes", "value"] (defScope s_want_position) := ⟨rfl, rfl, rfl, by decide +kernel, rfl, by decide +kernel, by decide +kernel⟩
theorem f_want_position (T : Tx w K mg) : ∃ fd, FunD K "want_position" "want_position" (defArgs s_want_position) (defBody s_want_position) (defScope s_want_position) [] [] (He.ga K "want_position") fd := T.fn 12
abbrev N_ends_of : List Str := ["nodes", "node", "found", "behind", "position", "end", "child"]
theorem sc_ends_of : FnScope N_ends_of ["nodes"] (defScope s_ends_of) := ⟨rfl, rfl, rfl, by decide +kernel, rfl, by decide +kernel, by decide +kernel⟩
theorem f_ends_of (T : Tx w K mg) : ∃ fd, FunD K "ends_of" "ends_of" (defArgs s_ends_of) (defBody s_ends_of) (defScope s_ends_of) [] [] (He.ga K "ends_of") fd := T.fn 13
abbrev N_binders_around : List Str := ["nodes", "found", "left", "node", "around", "more"]
theorem sc_binders_around : FnScope N_binders_around ["nodes"] (defScope s_binders_around) := ⟨rfl, rfl, rfl, by decide +kernel, rfl, by decide +kernel, by decide +kernel⟩
theorem f_binders_around (T : Tx w K mg) : ∃ fd, FunD K "binders_around" "binders_around" (defArgs s_binders_around) (defBody s_binders_around) (defScope s_binders_around) [] [] (He.ga K "binders_around") fd := T.fn 14
abbrev N_lifted_nodes : List Str := ["nodes", "many", "found", "node", "around"]
theorem sc_lifted_nodes : FnScope N_lifted_nodes ["nodes", "many"] (defScope s_lifted_nodes) := ⟨rfl, rfl, rfl, by decide +kernel, rfl, by decide +kernel, by decide +kernel⟩
theorem f_lifted_nodes (T : Tx w K mg) : ∃ fd, FunD K "lifted_nodes" "lifted_nodes" (defArgs s_lifted_nodes) (defBody s_lifted_nodes) (defScope s_lifted_nodes) [] [] (He.ga K "lifted_nodes") fd := T.fn 15
abbrev N_nodes_put : List Str := ["nodes", "other", "found", "node", "around"]
theorem sc_nodes_put : FnScope N_nodes_put ["nodes", "other"] (defScope s_nodes_put) := ⟨rfl, rfl, rfl, by decide +kernel, rfl, by decide +kernel, by decide +kernel⟩
theorem f_nodes_put (T : Tx w K mg) : ∃ fd, FunD K "nodes_put" "nodes_put" (defArgs s_nodes_put) (defBody s_nodes_put) (defScope s_nodes_put) [] [] (He.ga K "nodes_put") fd := T.fn 16
abbrev N_row_of : List Str := ["names", "found", "kind"]
theorem sc_row_of : FnScope N_row_of ["names"] (defScope s_row_of) := ⟨rfl, rfl, rfl, by decide +kernel, rfl, by decide +kernel, by decide +kernel⟩
theorem f_row_of (T : Tx w K mg) : ∃ fd, FunD K "row_of" "row_of" (defArgs s_row_of) (defBody s_row_of) (defScope s_row_of) [] [] (He.ga K "row_of") fd := T.fn 17
abbrev N_kind_in : List Str := ["row", "out", "left", "turn"]
theorem sc_kind_in : FnScope N_kind_in ["row", "out"] (defScope s_kind_in) := ⟨rfl, rfl, rfl, by decide +kernel, rfl, by decide +kernel, by decide +kernel⟩
theorem f_kind_in (T : Tx w K mg) : ∃ fd, FunD K "kind_in" "kind_in" (defArgs s_kind_in) (defBody s_kind_in) (defScope s_kind_in) [] [] (He.ga K "kind_in") fd := T.fn 18
abbrev N_kind_of_leaf : List Str := ["node", "row"]
theorem sc_kind_of_leaf : FnScope N_kind_of_leaf ["node", "row"] (defScope s_kind_of_leaf) := ⟨rfl, rfl, rfl, by decide +kernel, rfl, by decide +kernel, by decide +kernel⟩
theorem f_kind_of_leaf (T : Tx w K mg) : ∃ fd, FunD K "kind_of_leaf" "kind_of_leaf" (defArgs s_kind_of_leaf) (defBody s_kind_of_leaf) (defScope s_kind_of_leaf) [] [] (He.ga K "kind_of_leaf") fd := T.fn 19
abbrev N_kind_of_part : List Str := ["word", "one"]
theorem sc_kind_of_part : FnScope N_kind_of_part ["word", "one"] (defScope s_kind_of_part) := ⟨rfl, rfl, rfl, by decide +kernel, rfl, by decide +kernel, by decide +kernel⟩
theorem f_kind_of_part (T : Tx w K mg) : ∃ fd, FunD K "kind_of_part" "kind_of_part" (defArgs s_kind_of_part) (defBody s_kind_of_part) (defScope s_kind_of_part) [] [] (He.ga K "kind_of_part") fd := T.fn 20
abbrev N_kind_of_call : List Str := ["one", "other"]
theorem sc_kind_of_call : FnScope N_kind_of_call ["one", "other"] (defScope s_kind_of_call) := ⟨rfl, rfl, rfl, by decide +kernel, rfl, by decide +kernel, by decide +kernel⟩
theorem f_kind_of_call (T : Tx w K mg) : ∃ fd, FunD K "kind_of_call" "kind_of_call" (defArgs s_kind_of_call) (defBody s_kind_of_call) (defScope s_kind_of_call) [] [] (He.ga K "kind_of_call") fd := T.fn 21
abbrev N_kind_of_turns : List Str := ["kind", "some"]
theorem sc_kind_of_turns : FnScope N_kind_of_turns ["kind", "some"] (defScope s_kind_of_turns) := ⟨rfl, rfl, rfl, by decide +kernel, rfl, by decide +kernel, by decide +kernel⟩
theorem f_kind_of_turns (T : Tx w K mg) : ∃ fd, FunD K "kind_of_turns" "kind_of_turns" (defArgs s_kind_of_turns) (defBody s_kind_of_turns) (defScope s_kind_of_turns) [] [] (He.ga K "kind_of_turns") fd := T.fn 22
abbrev N_kind_of_few : List Str := ["node", "some", "word"]
theorem sc_kind_of_few : FnScope N_kind_of_few ["node", "some"] (defScope s_kind_of_few) := ⟨rfl, rfl, rfl, by decide +kernel, rfl, by decide +kernel, by decide +kernel⟩
theorem f_kind_of_few (T : Tx w K mg) : ∃ fd, FunD K "kind_of_few" "kind_of_few" (defArgs s_kind_of_few) (defBody s_kind_of_few) (defScope s_kind_of_few) [] [] (He.ga K "kind_of_few") fd := T.fn 23
abbrev N_kind_by : List Str := ["node", "some", "made", "word", "found"]
theorem sc_kind_by : FnScope N_kind_by ["node", "some"] (defScope s_kind_by) := ⟨rfl, rfl, rfl, by decide +kernel, rfl, by decide +kernel, by decide +kernel⟩
theorem f_kind_by (T : Tx w K mg) : ∃ fd, FunD K "kind_by" "kind_by" (defArgs s_kind_by) (defBody s_kind_by) (defScope s_kind_by) [] [] (He.ga K "kind_by") fd := T.fn 24
abbrev N_bound_kind : List Str := ["node", "some", "word"]
theorem sc_bound_kind : FnScope N_bound_kind ["node", "some"] (defScope s_bound_kind) := ⟨rfl, rfl, rfl, by decide +kernel, rfl, by decide +kernel, by decide +kernel⟩
theorem f_bound_kind (T : Tx w K mg) : ∃ fd, FunD K "bound_kind" "bound_kind" (defArgs s_bound_kind) (defBody s_bound_kind) (defScope s_bound_kind) [] [] (He.ga K "bound_kind") fd := T.fn 25
abbrev N_next_row : List Str := ["nodes", "frame", "node", "kind"]
theorem sc_next_row : FnScope N_next_row ["nodes", "frame"] (defScope s_next_row) := ⟨rfl, rfl, rfl, by decide +kernel, rfl, by decide +kernel, by decide +kernel⟩
theorem f_next_row (T : Tx w K mg) : ∃ fd, FunD K "next_row" "next_row" (defArgs s_next_row) (defBody s_next_row) (defScope s_next_row) [] [] (He.ga K "next_row") fd := T.fn 26
abbrev N_finished : List Str := ["nodes", "frames", "kinds", "frame", "node", "kind"]
theorem sc_finished : FnScope N_finished ["nodes", "frames", "kinds"] (defScope s_finished) := ⟨rfl, rfl, rfl, by decide +kernel, rfl, by decide +kernel, by decide +kernel⟩
theorem f_finished (T : Tx w K mg) : ∃ fd, FunD K "finished" "finished" (defArgs s_finished) (defBody s_finished) (defScope s_finished) [] [] (He.ga K "finished") fd := T.fn 27
abbrev N_kinds_of : List Str := ["names", "nodes", "node", "kinds", "frames", "top", "position", "row", "kind"]
theorem sc_kinds_of : FnScope N_kinds_of ["names", "nodes"] (defScope s_kinds_of) := ⟨rfl, rfl, rfl, by decide +kernel, rfl, by decide +kernel, by decide +kernel⟩
theorem f_kinds_of (T : Tx w K mg) : ∃ fd, FunD K "kinds_of" "kinds_of" (defArgs s_kinds_of) (defBody s_kinds_of) (defScope s_kinds_of) [] [] (He.ga K "kinds_of") fd := T.fn 28
abbrev N_fitting_kinds : List Str := ["names", "nodes"]
theorem sc_fitting_kinds : FnScope N_fitting_kinds ["names", "nodes"] (defScope s_fitting_kinds) := ⟨rfl, rfl, rfl, by decide +kernel, rfl, by decide +kernel, by decide +kernel⟩
theorem f_fitting_kinds (T : Tx w K mg) : ∃ fd, FunD K "fitting_kinds" "fitting_kinds" (defArgs s_fitting_kinds) (defBody s_fitting_kinds) (defScope s_fitting_kinds) [] [] (He.ga K "fitting_kinds") fd := T.fn 29
abbrev N_is_program : List Str := ["value"]
theorem sc_is_program : FnScope N_is_program ["value"] (defScope s_is_program) := ⟨rfl, rfl, rfl, by decide +kernel, rfl, by decide +kernel, by decide +kernel⟩
theorem f_is_program (T : Tx w K mg) : ∃ fd, FunD K "is_program" "is_program" (defArgs s_is_program) (defBody s_is_program) (defScope s_is_program) [] [] (He.ga K "is_program") fd := T.fn 30
abbrev N_want_program : List Str := ["value"]
theorem sc_want_program : FnScope N_want_program ["value"] (defScope s_want_program) := ⟨rfl, rfl, rfl, by decide +kernel, rfl, by decide +kernel, by decide +kernel⟩
theorem f_want_program (T : Tx w K mg) : ∃ fd, FunD K "want_program" "want_program" (defArgs s_want_program) (defBody s_want_program) (defScope s_want_program) [] [] (He.ga K "want_program") fd := T.fn 31
abbrev N_program_kind : List Str := ["program"]
theorem sc_program_kind : FnScope N_program_kind ["program"] (defScope s_program_kind) := ⟨rfl, rfl, rfl, by decide +kernel, rfl, by decide +kernel, by decide +kernel⟩
theorem f_program_kind (T : Tx w K mg) : ∃ fd, FunD K "program_kind" "program_kind" (defArgs s_program_kind) (defBody s_program_kind) (defScope s_program_kind) [] [] (He.ga K "program_kind") fd := T.fn 32
abbrev N_held_marks : List Str := ["nodes", "node", "found", "position"]
theorem sc_held_marks : FnScope N_held_marks ["nodes"] (defScope s_held_marks) := ⟨rfl, rfl, rfl, by decide +kernel, rfl, by decide +kernel, by decide +kernel⟩
theorem f_held_marks (T : Tx w K mg) : ∃ fd, FunD K "held_marks" "held_marks" (defArgs s_held_marks) (defBody s_held_marks) (defScope s_held_marks) [] [] (He.ga K "held_marks") fd := T.fn 33
abbrev N_is_rule_at : List Str := ["nodes", "position", "word"]
theorem sc_is_rule_at : FnScope N_is_rule_at ["nodes", "position"] (defScope s_is_rule_at) := ⟨rfl, rfl, rfl, by decide +kernel, rfl, by decide +kernel, by decide +kernel⟩
theorem f_is_rule_at (T : Tx w K mg) : ∃ fd, FunD K "is_rule_at" "is_rule_at" (defArgs s_is_rule_at) (defBody s_is_rule_at) (defScope s_is_rule_at) [] [] (He.ga K "is_rule_at") fd := T.fn 34
abbrev N_rules_at : List Str := ["nodes", "kinds", "held", "position", "word", "found", "opened"]
theorem sc_rules_at : FnScope N_rules_at ["nodes", "kinds", "held", "position"] (defScope s_rules_at) := ⟨rfl, rfl, rfl, by decide +kernel, rfl, by decide +kernel, by decide +kernel⟩
theorem f_rules_at (T : Tx w K mg) : ∃ fd, FunD K "rules_at" "rules_at" (defArgs s_rules_at) (defBody s_rules_at) (defScope s_rules_at) [] [] (He.ga K "rules_at") fd := T.fn 35
abbrev N_by_turns : List Str := ["nodes", "ends", "position", "many", "step", "start", "left"]
theorem sc_by_turns : FnScope N_by_turns ["nodes", "ends", "position"] (defScope s_by_turns) := ⟨rfl, rfl, rfl, by decide +kernel, rfl, by decide +kernel, by decide +kernel⟩
theorem f_by_turns (T : Tx w K mg) : ∃ fd, FunD K "by_turns" "by_turns" (defArgs s_by_turns) (defBody s_by_turns) (defScope s_by_turns) [] [] (He.ga K "by_turns") fd := T.fn 36
abbrev N_by_which : List Str := ["nodes", "ends", "position", "arm", "given"]
theorem sc_by_which : FnScope N_by_which ["nodes", "ends", "position"] (defScope s_by_which) := ⟨rfl, rfl, rfl, by decide +kernel, rfl, by decide +kernel, by decide +kernel⟩
theorem f_by_which (T : Tx w K mg) : ∃ fd, FunD K "by_which" "by_which" (defArgs s_by_which) (defBody s_by_which) (defScope s_by_which) [] [] (He.ga K "by_which") fd := T.fn 37
abbrev N_by_long : List Str := ["nodes", "ends", "position", "kind", "own"]
theorem sc_by_long : FnScope N_by_long ["nodes", "ends", "position", "kind"] (defScope s_by_long) := ⟨rfl, rfl, rfl, by decide +kernel, rfl, by decide +kernel, by decide +kernel⟩
theorem f_by_long (T : Tx w K mg) : ∃ fd, FunD K "by_long" "by_long" (defArgs s_by_long) (defBody s_by_long) (defScope s_by_long) [] [] (He.ga K "by_long") fd := T.fn 38
abbrev N_by_word : List Str := ["nodes", "ends", "position", "word", "behind"]
theorem sc_by_word : FnScope N_by_word ["nodes", "ends", "position"] (defScope s_by_word) := ⟨rfl, rfl, rfl, by decide +kernel, rfl, by decide +kernel, by decide +kernel⟩
theorem f_by_word (T : Tx w K mg) : ∃ fd, FunD K "by_word" "by_word" (defArgs s_by_word) (defBody s_by_word) (defScope s_by_word) [] [] (He.ga K "by_word") fd := T.fn 39
abbrev N_after_step : List Str := ["nodes", "position", "rule", "ends", "made", "found"]
theorem sc_after_step : FnScope N_after_step ["nodes", "position", "rule"] (defScope s_after_step) := ⟨rfl, rfl, rfl, by decide +kernel, rfl, by decide +kernel, by decide +kernel⟩
theorem f_after_step (T : Tx w K mg) : ∃ fd, FunD K "after_step" "after_step" (defArgs s_after_step) (defBody s_after_step) (defScope s_after_step) [] [] (He.ga K "after_step") fd := T.fn 40
abbrev N_is_first_at : List Str := ["nodes", "position", "rule"]
theorem sc_is_first_at : FnScope N_is_first_at ["nodes", "position", "rule"] (defScope s_is_first_at) := ⟨rfl, rfl, rfl, by decide +kernel, rfl, by decide +kernel, by decide +kernel⟩
theorem f_is_first_at (T : Tx w K mg) : ∃ fd, FunD K "is_first_at" "is_first_at" (defArgs s_is_first_at) (defBody s_is_first_at) (defScope s_is_first_at) [] [] (He.ga K "is_first_at") fd := T.fn 41
abbrev N_stepped : List Str := ["program", "position", "rule", "nodes"]
theorem sc_stepped : FnScope N_stepped ["program", "position", "rule"] (defScope s_stepped) := ⟨rfl, rfl, rfl, by decide +kernel, rfl, by decide +kernel, by decide +kernel⟩
theorem f_stepped (T : Tx w K mg) : ∃ fd, FunD K "stepped" "stepped" (defArgs s_stepped) (defBody s_stepped) (defScope s_stepped) [] [] (He.ga K "stepped") fd := T.fn 42
abbrev N__law_pot : List Str := ["_law_script", "_law_k", "_law_cell"]
theorem sc__law_pot : FnScope N__law_pot ["_law_script", "_law_k"] (defScope sL_pot) := ⟨rfl, rfl, rfl, by decide +kernel, rfl, by decide +kernel, by decide +kernel⟩
theorem f__law_pot (T : Tx w K mg) : ∃ fd, FunD K "_law_pot" "_law_pot" (defArgs sL_pot) (defBody sL_pot) (defScope sL_pot) [] [] (He.ga K "_law_pot") fd := T.fn 43
abbrev N__law_draw : List Str := ["_law_pot_here", "_law_sides", "_law_digit"]
theorem sc__law_draw : FnScope N__law_draw ["_law_pot_here", "_law_sides"] (defScope sL_draw) := ⟨rfl, rfl, rfl, by decide +kernel, rfl, by decide +kernel, by decide +kernel⟩
theorem f__law_draw (T : Tx w K mg) : ∃ fd, FunD K "_law_draw" "_law_draw" (defArgs sL_draw) (defBody sL_draw) (defScope sL_draw) [] [] (He.ga K "_law_draw") fd := T.fn 44
abbrev N__law_pick : List Str := ["_law_pot_here", "_law_some"]
theorem sc__law_pick : FnScope N__law_pick ["_law_pot_here", "_law_some"] (defScope sL_pick) := ⟨rfl, rfl, rfl, by decide +kernel, rfl, by decide +kernel, by decide +kernel⟩
theorem f__law_pick (T : Tx w K mg) : ∃ fd, FunD K "_law_pick" "_law_pick" (defArgs sL_pick) (defBody sL_pick) (defScope sL_pick) [] [] (He.ga K "_law_pick") fd := T.fn 45
abbrev N__law_binds : List Str := ["_law_word", "_law_one"]
theorem sc__law_binds : FnScope N__law_binds ["_law_word"] (defScope sL_binds) := ⟨rfl, rfl, rfl, by decide +kernel, rfl, by decide +kernel, by decide +kernel⟩
theorem f__law_binds (T : Tx w K mg) : ∃ fd, FunD K "_law_binds" "_law_binds" (defArgs sL_binds) (defBody sL_binds) (defScope sL_binds) [] [] (He.ga K "_law_binds") fd := T.fn 46
abbrev N__law_tree : List Str := ["_law_term", "_law_some", "_law_node", "_law_parts", "_law_turn"]
theorem sc__law_tree : FnScope N__law_tree ["_law_term"] (defScope sL_tree) := ⟨rfl, rfl, rfl, by decide +kernel, rfl, by decide +kernel, by decide +kernel⟩
theorem f__law_tree (T : Tx w K mg) : ∃ fd, FunD K "_law_tree" "_law_tree" (defArgs sL_tree) (defBody sL_tree) (defScope sL_tree) [] [] (He.ga K "_law_tree") fd := T.fn 47
abbrev N__law_flat : List Str := ["_law_tree_here", "_law_found", "_law_part"]
theorem sc__law_flat : FnScope N__law_flat ["_law_tree_here"] (defScope sL_flat) := ⟨rfl, rfl, rfl, by decide +kernel, rfl, by decide +kernel, by decide +kernel⟩
theorem f__law_flat (T : Tx w K mg) : ∃ fd, FunD K "_law_flat" "_law_flat" (defArgs sL_flat) (defBody sL_flat) (defScope sL_flat) [] [] (He.ga K "_law_flat") fd := T.fn 48
abbrev N__law_lifted : List Str := ["_law_tree_here", "_law_many", "_law_around_here", "_law_node", "_law_parts", "_law_pairs", "_law_part", "_law_more"]
theorem sc__law_lifted : FnScope N__law_lifted ["_law_tree_here", "_law_many", "_law_around_here"] (defScope sL_lifted) := ⟨rfl, rfl, rfl, by decide +kernel, rfl, by decide +kernel, by decide +kernel⟩
theorem f__law_lifted (T : Tx w K mg) : ∃ fd, FunD K "_law_lifted" "_law_lifted" (defArgs sL_lifted) (defBody sL_lifted) (defScope sL_lifted) [] [] (He.ga K "_law_lifted") fd := T.fn 49
abbrev N__law_put : List Str := ["_law_tree_here", "_law_other", "_law_around_here", "_law_node", "_law_parts", "_law_pairs", "_law_part", "_law_more"]
theorem sc__law_put : FnScope N__law_put ["_law_tree_here", "_law_other", "_law_around_here"] (defScope sL_put) := ⟨rfl, rfl, rfl, by decide +kernel, rfl, by decide +kernel, by decide +kernel⟩
theorem f__law_put (T : Tx w K mg) : ∃ fd, FunD K "_law_put" "_law_put" (defArgs sL_put) (defBody sL_put) (defScope sL_put) [] [] (He.ga K "_law_put") fd := T.fn 50
abbrev N__law_kind : List Str := ["_law_node", "_law_some", "_law_env", "_law_word", "_law_leaf"]
theorem sc__law_kind : FnScope N__law_kind ["_law_node", "_law_some", "_law_env"] (defScope sL_kind) := ⟨rfl, rfl, rfl, by decide +kernel, rfl, by decide +kernel, by decide +kernel⟩
theorem f__law_kind (T : Tx w K mg) : ∃ fd, FunD K "_law_kind" "_law_kind" (defArgs sL_kind) (defBody sL_kind) (defScope sL_kind) [] [] (He.ga K "_law_kind") fd := T.fn 51
abbrev N__law_bound : List Str := ["_law_node", "_law_some"]
theorem sc__law_bound : FnScope N__law_bound ["_law_node", "_law_some"] (defScope sL_bound) := ⟨rfl, rfl, rfl, by decide +kernel, rfl, by decide +kernel, by decide +kernel⟩
theorem f__law_bound (T : Tx w K mg) : ∃ fd, FunD K "_law_bound" "_law_bound" (defArgs sL_bound) (defBody sL_bound) (defScope sL_bound) [] [] (He.ga K "_law_bound") fd := T.fn 52
abbrev N__law_plain_rules : List Str := ["_law_tree_here", "_law_node", "_law_parts", "_law_word", "_law_top"]
theorem sc__law_plain_rules : FnScope N__law_plain_rules ["_law_tree_here"] (defScope sL_plain_rules) := ⟨rfl, rfl, rfl, by decide +kernel, rfl, by decide +kernel, by decide +kernel⟩
theorem f__law_plain_rules (T : Tx w K mg) : ∃ fd, FunD K "_law_plain_rules" "_law_plain_rules" (defArgs sL_plain_rules) (defBody sL_plain_rules) (defScope sL_plain_rules) [] [] (He.ga K "_law_plain_rules") fd := T.fn 53
abbrev N__law_look : List Str := ["_law_tree_here", "_law_env", "_law_at", "_law_is_held", "_law_node", "_law_parts", "_law_rule", "_law_some", "_law_found", "_law_spot", "_law_place", "_law_more", "_law_inner", "_law_held", "_law_kind_here", "_law_steps_here"]
theorem sc__law_look : FnScope N__law_look ["_law_tree_here", "_law_env", "_law_at", "_law_is_held"] (defScope sL_look) := ⟨rfl, rfl, rfl, by decide +kernel, rfl, by decide +kernel, by decide +kernel⟩
theorem f__law_look (T : Tx w K mg) : ∃ fd, FunD K "_law_look" "_law_look" (defArgs sL_look) (defBody sL_look) (defScope sL_look) [] [] (He.ga K "_law_look") fd := T.fn 54
abbrev N__law_steps : List Str := ["_law_tree_here"]
theorem sc__law_steps : FnScope N__law_steps ["_law_tree_here"] (defScope sL_steps) := ⟨rfl, rfl, rfl, by decide +kernel, rfl, by decide +kernel, by decide +kernel⟩
theorem f__law_steps (T : Tx w K mg) : ∃ fd, FunD K "_law_steps" "_law_steps" (defArgs sL_steps) (defBody sL_steps) (defScope sL_steps) [] [] (He.ga K "_law_steps") fd := T.fn 55
abbrev N__law_long : List Str := ["_law_tree_here", "_law_kind_here"]
theorem sc__law_long : FnScope N__law_long ["_law_tree_here", "_law_kind_here"] (defScope sL_long) := ⟨rfl, rfl, rfl, by decide +kernel, rfl, by decide +kernel, by decide +kernel⟩
theorem f__law_long (T : Tx w K mg) : ∃ fd, FunD K "_law_long" "_law_long" (defArgs sL_long) (defBody sL_long) (defScope sL_long) [] [] (He.ga K "_law_long") fd := T.fn 56
abbrev N__law_made : List Str := ["_law_tree_here", "_law_rule", "_law_kind_here", "_law_node", "_law_parts", "_law_number"]
theorem sc__law_made : FnScope N__law_made ["_law_tree_here", "_law_rule", "_law_kind_here"] (defScope sL_made) := ⟨rfl, rfl, rfl, by decide +kernel, rfl, by decide +kernel, by decide +kernel⟩
theorem f__law_made (T : Tx w K mg) : ∃ fd, FunD K "_law_made" "_law_made" (defArgs sL_made) (defBody sL_made) (defScope sL_made) [] [] (He.ga K "_law_made") fd := T.fn 57
abbrev N__law_stepped_in : List Str := ["_law_tree_here", "_law_env", "_law_at", "_law_position", "_law_rule", "_law_node", "_law_parts", "_law_some", "_law_later", "_law_spot", "_law_place", "_law_more", "_law_inner", "_law_part", "_law_kind_here"]
theorem sc__law_stepped_in : FnScope N__law_stepped_in ["_law_tree_here", "_law_env", "_law_at", "_law_position", "_law_rule"] (defScope sL_stepped_in) := ⟨rfl, rfl, rfl, by decide +kernel, rfl, by decide +kernel, by decide +kernel⟩
theorem f__law_stepped_in (T : Tx w K mg) : ∃ fd, FunD K "_law_stepped_in" "_law_stepped_in" (defArgs sL_stepped_in) (defBody sL_stepped_in) (defScope sL_stepped_in) [] [] (He.ga K "_law_stepped_in") fd := T.fn 58
abbrev N__law_stepped : List Str := ["_law_tree_here", "_law_position", "_law_rule"]
theorem sc__law_stepped : FnScope N__law_stepped ["_law_tree_here", "_law_position", "_law_rule"] (defScope sL_stepped) := ⟨rfl, rfl, rfl, by decide +kernel, rfl, by decide +kernel, by decide +kernel⟩
theorem f__law_stepped (T : Tx w K mg) : ∃ fd, FunD K "_law_stepped" "_law_stepped" (defArgs sL_stepped) (defBody sL_stepped) (defScope sL_stepped) [] [] (He.ga K "_law_stepped") fd := T.fn 59
abbrev N__law_drawn_kind : List Str := ["_law_pot_here", "_law_a", "_law_b", "_law_number", "_law_aa", "_law_kept"]
theorem sc__law_drawn_kind : FnScope N__law_drawn_kind ["_law_pot_here"] (defScope sL_drawn_kind) := ⟨rfl, rfl, rfl, by decide +kernel, rfl, by decide +kernel, by decide +kernel⟩
theorem f__law_drawn_kind (T : Tx w K mg) : ∃ fd, FunD K "_law_drawn_kind" "_law_drawn_kind" (defArgs sL_drawn_kind) (defBody sL_drawn_kind) (defScope sL_drawn_kind) [] [] (He.ga K "_law_drawn_kind") fd := T.fn 60
abbrev N__law_ways : List Str := ["_law_kind_here", "_law_letter", "_law_way", "_law_near"]
theorem sc__law_ways : FnScope N__law_ways ["_law_kind_here", "_law_letter"] (defScope sL_ways) := ⟨rfl, rfl, rfl, by decide +kernel, rfl, by decide +kernel, by decide +kernel⟩
theorem f__law_ways (T : Tx w K mg) : ∃ fd, FunD K "_law_ways" "_law_ways" (defArgs sL_ways) (defBody sL_ways) (defScope sL_ways) [] [] (He.ga K "_law_ways") fd := T.fn 61
abbrev N__law_calls : List Str := ["_law_way", "_law_step"]
theorem sc__law_calls : FnScope N__law_calls ["_law_way"] (defScope sL_calls) := ⟨rfl, rfl, rfl, by decide +kernel, rfl, by decide +kernel, by decide +kernel⟩
theorem f__law_calls (T : Tx w K mg) : ∃ fd, FunD K "_law_calls" "_law_calls" (defArgs sL_calls) (defBody sL_calls) (defScope sL_calls) [] [] (He.ga K "_law_calls") fd := T.fn 62
abbrev N__law_head : List Str := ["_law_pot_here", "_law_kind_here", "_law_env", "_law_deep", "_law_found", "_law_place", "_law_one", "_law_way", "_law_least", "_law_few"]
theorem sc__law_head : FnScope N__law_head ["_law_pot_here", "_law_kind_here", "_law_env", "_law_deep"] (defScope sL_head) := ⟨rfl, rfl, rfl, by decide +kernel, rfl, by decide +kernel, by decide +kernel⟩
theorem f__law_head (T : Tx w K mg) : ∃ fd, FunD K "_law_head" "_law_head" (defArgs sL_head) (defBody sL_head) (defScope sL_head) [] [] (He.ga K "_law_head") fd := T.fn 63
abbrev N__law_pair : List Str := ["_law_pot_here", "_law_kind_here", "_law_env", "_law_deep", "_law_word", "_law_near", "_law_far", "_law_found", "_law_one", "_law_other", "_law_side", "_law_node", "_law_number"]
theorem sc__law_pair : FnScope N__law_pair ["_law_pot_here", "_law_kind_here", "_law_env", "_law_deep"] (defScope sL_pair) := ⟨rfl, rfl, rfl, by decide +kernel, rfl, by decide +kernel, by decide +kernel⟩
theorem f__law_pair (T : Tx w K mg) : ∃ fd, FunD K "_law_pair" "_law_pair" (defArgs sL_pair) (defBody sL_pair) (defScope sL_pair) [] [] (He.ga K "_law_pair") fd := T.fn 64
abbrev N__law_row : List Str := ["_law_pot_here", "_law_kind_here", "_law_env", "_law_deep", "_law_place", "_law_way", "_law_near", "_law_far", "_law_step", "_law_one", "_law_other"]
theorem sc__law_row : FnScope N__law_row ["_law_pot_here", "_law_kind_here", "_law_env", "_law_deep"] (defScope sL_row) := ⟨rfl, rfl, rfl, by decide +kernel, rfl, by decide +kernel, by decide +kernel⟩
theorem f__law_row (T : Tx w K mg) : ∃ fd, FunD K "_law_row" "_law_row" (defArgs sL_row) (defBody sL_row) (defScope sL_row) [] [] (He.ga K "_law_row") fd := T.fn 65
abbrev N__law_around : List Str := ["_law_pot_here", "_law_tree_here", "_law_kind_here", "_law_way", "_law_number", "_law_name", "_law_told"]
theorem sc__law_around : FnScope N__law_around ["_law_pot_here", "_law_tree_here", "_law_kind_here"] (defScope sL_around) := ⟨rfl, rfl, rfl, by decide +kernel, rfl, by decide +kernel, by decide +kernel⟩
theorem f__law_around (T : Tx w K mg) : ∃ fd, FunD K "_law_around" "_law_around" (defArgs sL_around) (defBody sL_around) (defScope sL_around) [] [] (He.ga K "_law_around") fd := T.fn 66
abbrev N__law_two : List Str := ["_law_pot_here", "_law_deep", "_law_plain", "_law_other"]
theorem sc__law_two : FnScope N__law_two ["_law_pot_here", "_law_deep"] (defScope sL_two) := ⟨rfl, rfl, rfl, by decide +kernel, rfl, by decide +kernel, by decide +kernel⟩
theorem f__law_two (T : Tx w K mg) : ∃ fd, FunD K "_law_two" "_law_two" (defArgs sL_two) (defBody sL_two) (defScope sL_two) [] [] (He.ga K "_law_two") fd := T.fn 67
abbrev N__law_is_made : List Str := ["_law_term", "_law_position", "_law_rule", "_law_made_here"]
theorem sc__law_is_made : FnScope N__law_is_made ["_law_term", "_law_position", "_law_rule"] (defScope sL_is_made) := ⟨rfl, rfl, rfl, by decide +kernel, rfl, by decide +kernel, by decide +kernel⟩
theorem f__law_is_made (T : Tx w K mg) : ∃ fd, FunD K "_law_is_made" "_law_is_made" (defArgs sL_is_made) (defBody sL_is_made) (defScope sL_is_made) [] [] (He.ga K "_law_is_made") fd := T.fn 68
abbrev N__law_is_refused_right : List Str := ["_law_pot_here", "_law_term", "_law_steps_here", "_law_rules", "_law_position", "_law_rule"]
theorem sc__law_is_refused_right : FnScope N__law_is_refused_right ["_law_pot_here", "_law_term", "_law_steps_here"] (defScope sL_is_refused_right) := ⟨rfl, rfl, rfl, by decide +kernel, rfl, by decide +kernel, by decide +kernel⟩
theorem f__law_is_refused_right (T : Tx w K mg) : ∃ fd, FunD K "_law_is_refused_right" "_law_is_refused_right" (defArgs sL_is_refused_right) (defBody sL_is_refused_right) (defScope sL_is_refused_right) [] [] (He.ga K "_law_is_refused_right") fd := T.fn 69
abbrev N__law_right : List Str := ["_law_pot_here", "_law_plain", "_law_term", "_law_kind_here", "_law_tree_here", "_law_turn", "_law_steps_here", "_law_here", "_law_position", "_law_rule", "_law_shown", "_law_due", "_law_told"]
theorem sc__law_right : FnScope N__law_right ["_law_pot_here"] (defScope sL_right) := ⟨rfl, rfl, rfl, by decide +kernel, rfl, by decide +kernel, by decide +kernel⟩
theorem f__law_right (T : Tx w K mg) : ∃ fd, FunD K "_law_right" "_law_right" (defArgs sL_right) (defBody sL_right) (defScope sL_right) [] [] (He.ga K "_law_right") fd := T.fn 70
abbrev N_law : List Str := ["_law_script"]
theorem sc_law : FnScope N_law ["_law_script"] (defScope s_law) := ⟨rfl, rfl, rfl, by decide +kernel, rfl, by decide +kernel, by decide +kernel⟩
theorem f_law (T : Tx w K mg) : ∃ fd, FunD K "law" "law" (defArgs s_law) (defBody s_law) (defScope s_law) [] [] (He.ga K "law") fd := T.fn 71
end
end K32

set_option maxRecDepth 100000
set_option maxHeartbeats 4000000
namespace K32
open PySem L2
/-! ## 8. From a body to the def's promise -/
abbrev cxD (P : Program) (w : World) (K : PySem.W.Frag) (mg : Str → Option Value) (base : Heap) (x : Str) (st : Stmt) (N : List Str) (f : Addr) (cdv : Value) (A : Around) (outer : List Env) (s : Shared) (H : Hp) (E : XK) : Cx :=
  (cxOf CX0 P w K mg base N x (defScope st) f cdv A outer s H E).nox
theorem sls_none {K : PySem.W.Frag} {B : Hp} : ∀ n : Nat, Sls K B (List.replicate n none) (List.replicate n .no)
  | 0 => .nil
  | n + 1 => .cons trivial (sls_none n)
theorem sls_some {K : PySem.W.Frag} {B : Hp} : ∀ {vs : List V} {ls : List Lo}, Los K B vs ls → Sls K B (vs.map some) ls
  | _, _, .nil => .nil
  | _, _, .cons r t => .cons r (sls_some t)
theorem sls_start {K : PySem.W.Frag} {B : Hp} {vs : List V} {ls : List Lo} {N : List Str} (h : Los K B vs ls) : Sls K B (L2.start N vs) (ls ++ List.replicate (N.length - ls.length) .no) := by
  unfold L2.start
  rw [Paired.len h]
  exact Paired.app (sls_some h) (sls_none _)
/-- the slots at the entry -/
def at0 (N : List Str) (ds : List PyData) : List Lo := ds.map .d ++ List.replicate (N.length - ds.length) .no
section
variable {P : Program} {w : World} {K : PySem.W.Frag} {mg : Str → Option Value} {base : Heap} {x : Str} {st : Stmt} {N ps : List Str} {f : Addr} {k : Nat}
def Body (P : Program) (w : World) (K : PySem.W.Frag) (mg : Str → Option Value) (base : Heap) (x : Str) (st : Stmt) (N : List Str) (f : Addr) (k : Nat) (C : Cx → Prop) : Prop :=
  ∀ (cdv : Value) (A : Around) (outer : List Env) (s : Shared) (H : Hp) (E : XK), Room k (A.deeper (PyProof.Rows.envOfC x (defScope st) s.heap.objs.size f cdv)) → C (cxD P w K mg base x st N f cdv A outer s H E)
theorem def_R {R : List PyData → PyData → Prop} (F : ∃ fd, FunD K x x (defArgs st) (defBody st) (defScope st) [] [] f fd) (hm : mg x = some (.ref f)) (S : FnScope N ps (defScope st))
    (hb : ∀ (kV doc pm : Value) (an : Option Addr) (cdv ct : Value) (us : List Value), us.length = ps.length → bindArgs (PySem.W.fnOf x x (defArgs st) (defBody st) (defScope st) .none kV doc pm an cdv ct) ⟨us, []⟩ = pure (ps.zip us))
    (hlen : ∀ ds d, R ds d → ds.length = ps.length)
    (body : Body P w K mg base x st N f k fun X => ∀ ds d, R ds d → ∀ (O : Og) (D : Ends), D.nx = (fun _ H' => D.rt .non H') → RetOk K O D d → Go X O [] (at0 N ds) D (defBody st)) :
    Def P w K mg base CX0 x (k + 1) ps (spR K R) := by
  obtain ⟨fd, F⟩ := F
  refine ⟨f, fd, F.ok S (fun vs H Q E h => ?_) fun cdv A outer s H vs Q E hr h => ?_, hm, F.kp, F.bindsN hb⟩
  · obtain ⟨B, ds, d, _, h2, h3, _⟩ := h
    rw [h2.length, hlen _ _ h3]
  · obtain ⟨B, ds, d, h1, h2, h3, h4⟩ := h
    refine ⟨wSs (cxD P w K mg base x st N f cdv A outer s H E) (defBody st), PSs.nox pss_w, ?_⟩
    refine body cdv A outer s H E hr ds d h3 ⟨B, H, [], B⟩ _ rfl (fun B' H' v n r => h4 v B' H' n r) B _ H ⟨Nx.refl h1, Same.refl _, fun p hp => by simp at hp, .nil, ?_⟩
    have z := sls_start (N := N) (Los.of_da h2)
    rw [List.length_map] at z
    exact z
theorem def_L {R : List PyData → List PyData → Prop} (F : ∃ fd, FunD K x x (defArgs st) (defBody st) (defScope st) [] [] f fd) (hm : mg x = some (.ref f)) (S : FnScope N ps (defScope st))
    (hb : ∀ (kV doc pm : Value) (an : Option Addr) (cdv ct : Value) (us : List Value), us.length = ps.length → bindArgs (PySem.W.fnOf x x (defArgs st) (defBody st) (defScope st) .none kV doc pm an cdv ct) ⟨us, []⟩ = pure (ps.zip us))
    (hlen : ∀ ds d, R ds d → ds.length = ps.length)
    (body : Body P w K mg base x st N f k fun X => ∀ ds es, R ds es → ∀ (O : Og) (D : Ends), D.nx = (fun _ H' => D.rt .non H') →
      (∀ B H' a M ρ σ, Sit K O B ((a, .lst (es.map .d)) :: M) ρ σ H' → O.H a = none → D.rt (.ref a) H') → Go X O [] (at0 N ds) D (defBody st)) :
    Def P w K mg base CX0 x (k + 1) ps (spL K R) := by
  obtain ⟨fd, F⟩ := F
  refine ⟨f, fd, F.ok S (fun vs H Q E h => ?_) fun cdv A outer s H vs Q E hr h => ?_, hm, F.kp, F.bindsN hb⟩
  · obtain ⟨B, ds, d, _, h2, h3, _⟩ := h
    rw [h2.length, hlen _ _ h3]
  · obtain ⟨B, ds, es, h1, h2, h3, h4⟩ := h
    refine ⟨wSs (cxD P w K mg base x st N f cdv A outer s H E) (defBody st), PSs.nox pss_w, ?_⟩
    refine body cdv A outer s H E hr ds es h3 ⟨B, H, [], B⟩ _ rfl (fun B' H' a M ρ σ S' hO => ?_) B _ H ⟨Nx.refl h1, Same.refl _, fun p hp => by simp at hp, .nil, ?_⟩
    · obtain ⟨g1, ⟨o, g2, xs, rfl, g3⟩, _⟩ := S'.own _ List.mem_cons_self
      exact h4 a xs B' H' S'.nx hO g1 g2 (Los.da g3)
    · have z := sls_start (N := N) (Los.of_da h2)
      rw [List.length_map] at z
      exact z
end
end K32

set_option maxRecDepth 100000
set_option maxHeartbeats 4000000
namespace K32
open PySem L2

/-! ## 9. What is walked: n items, each known as data -/
def Gives (K : PySem.W.Frag) (B' : Hp) (n : Nat) (Y : Nat → Hp → V → Hp → Prop) (item : Nat → PyData) : Prop :=
  ∀ i H1 x H2, i < n → Y i H1 x H2 → ∀ B1, Same B' B1 → Same B1 H1 → ∃ B2, Nx [] B1 H1 B2 H2 ∧ Da K B2 x (item i)
def Iter (X : Cx) (O : Og) (M : Owns) (ρ : List Lo) (tg iter : Expr) (n : Nat) (item : Nat → PyData) : Prop :=
  ∃ wi, PI X tg iter wi ∧ ∀ B σ H, Sit X.K O B M ρ σ H → ∀ R : It → Hp → Prop,
    (∀ J B' H' G Y, Same B B' → Sit X.K O B' M ρ σ H' → L2.Walk J n G Y → (∀ B1 H1, Same B' B1 → Same B1 H1 → G H1) → Gives X.K B' n Y item → R J H') → wi σ H R
section
variable {X : Cx} {O : Og} {M : Owns} {ρ : List Lo} {e a b c tg : Expr} {es : List Expr} {l la lb : Lo} {pos p1 p2 p3 : Pos} {D : Ends} {st : Stmt} {rest tb fb : List Stmt}
theorem nx_same {B H : Hp} (h : Same B H) : Nx [] B H B H := Nx.refl h
theorem it_list {ds : List PyData} (h : Ed X O M ρ e (.d (.list ds))) : Iter X O M ρ tg e ds.length (fun i => ds.getD i .none) :=
  ⟨_, pi_list pe_w, fun B σ H S R k => h B σ H S _ fun v B1 H1 e1 S1 r => by
    cases r with
    | lst h1 h2 =>
      refine ⟨_, rfl, ⟨_, SqL.of (S1.bh _ _ h1)⟩, ?_⟩
      rw [← h2.length] at k
      refine k _ B1 H1 _ _ e1 S1 walk_list (fun B2 H2 g1 g2 => SqL.of (g2 _ _ (g1 _ _ h1))) fun i G1 x G2 hi hy B2 g1 g2 => ?_
      obtain ⟨rfl, hx⟩ := hy
      obtain ⟨d, hd, hv⟩ := h2.of_get hx
      refine ⟨B2, nx_same g2, ?_⟩
      dsimp only
      rw [List.getD_eq_getElem?_getD, hd]
      exact hv.mono g1⟩
theorem it_tup {ds : List PyData} (h : Ed X O M ρ e (.d (.tuple ds))) : Iter X O M ρ tg e ds.length (fun i => ds.getD i .none) :=
  ⟨_, pi_tup pe_w, fun B σ H S R k => h B σ H S _ fun v B1 H1 e1 S1 r => by
    cases r with
    | tup h1 h2 =>
      refine ⟨_, rfl, ⟨_, sqt_mono S1.bh h1⟩, ?_⟩
      rw [← h2.length] at k
      refine k _ B1 H1 _ _ e1 S1 walk_tup (fun B2 H2 g1 g2 => sqt_mono g2 (sqt_mono g1 h1)) fun i G1 x G2 hi hy B2 g1 g2 => ?_
      obtain ⟨rfl, hx⟩ := hy
      obtain ⟨d, hd, hv⟩ := h2.of_get hx
      refine ⟨B2, nx_same g2, ?_⟩
      dsimp only
      rw [List.getD_eq_getElem?_getD, hd]
      exact hv.mono g1⟩
theorem it_range1 {n : Int} (hm : X.mg "range" = none) (h : Ed X O M ρ e (.d (.int n))) (h1 : -100000 ≤ n) (h2 : n ≤ 100000) (hg : Gl X "range" := by rfl) (hs : starEach [e] X.env = [(false, eval e X.env)] := by rfl) (hs1 : starEach [e] X.env = (false, eval e X.env) :: starEach [] X.env := by rfl) :
    Iter X O M ρ tg (.Call (.Name "range" p1) [e] [] pos) n.toNat (fun i => .int i) :=
  ⟨_, pi_range1 hg hm pa_w hs, fun B σ H S R k => (ea_cons h ea_nil hs1) B σ H S _ fun vs B1 H1 e1 S1 r => by
    cases r with
    | cons r1 r2 =>
      cases r2
      cases r1
      refine ⟨n, rfl, by omega, by omega, ?_⟩
      refine k _ B1 H1 _ _ e1 S1 walk_range (fun _ _ _ _ => trivial) fun i G1 x G2 hi hy B2 g1 g2 => ?_
      obtain ⟨rfl, rfl⟩ := hy
      refine ⟨B2, nx_same g2, ?_⟩
      dsimp only
      rw [Int.zero_add]
      exact .int _⟩
/-- range(a, b, -1) -/
theorem it_rangeDown {i j : Int} (hm : X.mg "range" = none) (ha : Ed X O M ρ a (.d (.int i))) (hb : Ed X O M ρ b (.d (.int j))) (hc : Ed X O M ρ c (.d (.int (-1)))) (h1 : -100000 ≤ i) (h2 : i ≤ 100000) (h3 : -100000 ≤ j) (h4 : j ≤ 100000) (hg : Gl X "range" := by rfl)
    (hs : starEach [a, b, c] X.env = (false, eval a X.env) :: starEach [b, c] X.env := by rfl) (hs2 : starEach [b, c] X.env = (false, eval b X.env) :: starEach [c] X.env := by rfl) (hs3 : starEach [c] X.env = (false, eval c X.env) :: starEach [] X.env := by rfl)
    (hpl : (backTo pos (starEach [b, c] X.env)).any (·.1) = false := by rfl) : Iter X O M ρ tg (.Call (.Name "range" p1) [a, b, c] [] pos) (i - j).toNat (fun k => .int (i - k)) :=
  ⟨_, pi_range3 hg hm pa_w hs hpl, fun B σ H S R k => (ea_cons ha (ea_cons hb (ea_cons hc ea_nil hs3) hs2) hs) B σ H S _ fun vs B1 H1 e1 S1 r => by
    cases r with
    | cons r1 r =>
      cases r with
      | cons r2 r =>
        cases r with
        | cons r3 r =>
          cases r
          cases r1; cases r2; cases r3
          refine ⟨i, j, -1, _, rfl, RgC.neg (by omega) (by omega) (by omega) (by omega), ?_⟩
          refine k _ B1 H1 _ _ e1 S1 walk_rangeC (fun _ _ _ _ => trivial) fun q G1 x G2 hi hy B2 g1 g2 => ?_
          obtain ⟨rfl, rfl⟩ := hy
          refine ⟨B2, nx_same g2, ?_⟩
          dsimp only
          rw [show i + (q : Int) * -1 = i - q by omega]
          exact .int _⟩
/-- a new pair, as data -/
theorem gives_pair {K : PySem.W.Frag} {B' : Hp} {n : Nat} {f g : Nat → Option V} {df dg : Nat → PyData} (hf : ∀ i x, i < n → f i = some x → Da K B' x (df i)) (hg : ∀ i y, i < n → g i = some y → Da K B' y (dg i)) : Gives K B' n (YPair f g) (fun i => .tuple [df i, dg i]) := by
  rintro i H1 v H2 hi ⟨T, x, y, rfl, hT, rfl, hx, hy⟩ B1 g1 g2
  have hB : B1 T = none := by
    cases e : B1 T with
    | none => rfl
    | some u => rw [g2 _ _ e] at hT; cases hT
  have hb : Same B1 (upd B1 T (.tup [x, y])) := fun b u k => by rw [upd_ne (ne_of_none k hB)]; exact k
  have hs : Same H1 (upd H1 T (.tup [x, y])) := fun b u k => by rw [upd_ne (ne_of_none k hT)]; exact k
  refine ⟨upd B1 T (.tup [x, y]), ⟨hb, fun b u k => ?_, fun b _ k1 k2 => ?_, fun b u _ k => hs b u k, fun b k => ?_⟩, .tup (SqT.of upd_same) (.cons (((hf i x hi hx).mono g1).mono hb) (.cons (((hg i y hi hy).mono g1).mono hb) .nil))⟩
  · by_cases z : b = T
    · subst z; rw [upd_same] at k ⊢; exact k
    · rw [upd_ne z] at k ⊢; exact g2 _ _ k
  · by_cases z : b = T
    · subst z; exact absurd hT k2
    · rw [upd_ne z]; exact k1
  · cases q : H1 b with
    | none => exact absurd q k
    | some u => rw [hs _ _ q]; simp
/-- zip of two lists -/
theorem it_zip {ds fs : List PyData} {elts : List Expr} {kk : Nat} {tpos : Pos} (hm : X.mg "zip" = none) (ha : Ed X O M ρ a (.d (.list ds))) (hb : Ed X O M ρ b (.d (.list fs))) (hg : Gl X "zip" := by rfl)
    (hs : starEach [a, b] X.env = (false, eval a X.env) :: starEach [b] X.env := by rfl) (hs2 : starEach [b] X.env = (false, eval b X.env) :: starEach [] X.env := by rfl) (hpl : (backTo pos (starEach [b] X.env)).any (·.1) = false := by rfl) :
    Iter X O M ρ (.Tuple elts kk tpos) (.Call (.Name "zip" p1) [a, b] [] pos) (min ds.length fs.length) (fun i => .tuple [ds.getD i .none, fs.getD i .none]) :=
  ⟨_, pi_zip hg hm pa_w hs hpl, fun B σ H S R k => (ea_cons ha (ea_cons hb ea_nil hs2) hs) B σ H S _ fun vs B1 H1 e1 S1 r => by
    cases r with
    | cons r1 r =>
      cases r with
      | cons r2 r =>
        cases r
        cases r1 with
        | lst h1 h2 =>
          cases r2 with
          | lst h3 h4 =>
            refine ⟨_, _, _, _, rfl, SqL.of (S1.bh _ _ h1), SqL.of (S1.bh _ _ h3), ?_⟩
            rw [← h2.length, ← h4.length] at k
            refine k _ B1 H1 _ _ e1 S1 (walk_zip rfl) (fun B2 H2 g1 g2 => ⟨SqL.of (g2 _ _ (g1 _ _ h1)), SqL.of (g2 _ _ (g1 _ _ h3))⟩) (gives_pair (fun i x hi hx => ?_) fun i y hi hy => ?_)
            · obtain ⟨d, hd, hv⟩ := h2.of_get hx
              rw [List.getD_eq_getElem?_getD, hd]
              exact hv
            · obtain ⟨d, hd, hv⟩ := h4.of_get hy
              rw [List.getD_eq_getElem?_getD, hd]
              exact hv⟩
/-- enumerate of a list -/
theorem it_enum {ds : List PyData} {elts : List Expr} {kk : Nat} {tpos : Pos} (hm : X.mg "enumerate" = none) (ha : Ed X O M ρ a (.d (.list ds))) (hg : Gl X "enumerate" := by rfl) (hs : starEach [a] X.env = [(false, eval a X.env)] := by rfl) (hs1 : starEach [a] X.env = (false, eval a X.env) :: starEach [] X.env := by rfl) :
    Iter X O M ρ (.Tuple elts kk tpos) (.Call (.Name "enumerate" p1) [a] [] pos) ds.length (fun i => .tuple [.int i, ds.getD i .none]) :=
  ⟨_, pi_enum hg hm pa_w hs, fun B σ H S R k => (ea_cons ha ea_nil hs1) B σ H S _ fun vs B1 H1 e1 S1 r => by
    cases r with
    | cons r1 r =>
      cases r
      cases r1 with
      | lst h1 h2 =>
        refine ⟨_, _, rfl, SqL.of (S1.bh _ _ h1), ?_⟩
        rw [← h2.length] at k
        refine k _ B1 H1 _ _ e1 S1 walk_enum (fun B2 H2 g1 g2 => SqL.of (g2 _ _ (g1 _ _ h1))) (gives_pair (fun i x hi hx => ?_) fun i y hi hy => ?_)
        · cases hx
          exact .int _
        · obtain ⟨d, hd, hv⟩ := h2.of_get hy
          rw [List.getD_eq_getElem?_getD, hd]
          exact hv⟩

/-! ### targets -/
def Tg (K : PySem.W.Frag) (O : Og) (M : Owns) (g : TG) (d : PyData) (ρ ρ' : List Lo) : Prop :=
  ∀ B σ H v, Sit K O B M ρ σ H → Da K B v d → ∀ Q : L2.St → Hp → Prop, (∀ σ' B' H', Same B B' → Sit K O B' M ρ' σ' H' → Q σ' H') → g v σ H Q
theorem tg_name {K : PySem.W.Frag} (i : Nat) {d : PyData} : Tg K O M (gName i) d ρ (ρ.set i (.d d)) := fun B σ H v S r Q k => k _ B H (Same.refl _) (S.slot i r)
theorem tg_two {K : PySem.W.Frag} (i j : Nat) {d d' : PyData} : Tg K O M (gTup K 2 (gCons (gName i) (gCons (gName j) gNil))) (.tuple [d, d']) ρ ((ρ.set i (.d d)).set j (.d d')) := fun B σ H v S r Q k => by
  cases r with
  | tup h1 h2 =>
    cases h2 with
    | cons h2 h3 =>
      cases h3 with
      | cons h3 h4 =>
        cases h4
        exact ⟨_, _, rfl, sqt_mono S.bh h1, rfl, _, _, rfl, _, _, rfl, rfl, k _ B H (Same.refl _) ((S.slot i (l := .d d) h2).slot j (l := .d d') h3)⟩
theorem tg_three {K : PySem.W.Frag} (i j m : Nat) {d d' d'' : PyData} : Tg K O M (gTup K 3 (gCons (gName i) (gCons (gName j) (gCons (gName m) gNil)))) (.tuple [d, d', d'']) ρ (((ρ.set i (.d d)).set j (.d d')).set m (.d d'')) := fun B σ H v S r Q k => by
  cases r with
  | tup h1 h2 =>
    cases h2 with
    | cons h2 h3 =>
      cases h3 with
      | cons h3 h4 =>
        cases h4 with
        | cons h4 h5 =>
          cases h5
          exact ⟨_, _, rfl, sqt_mono S.bh h1, rfl, _, _, rfl, _, _, rfl, _, _, rfl, rfl, k _ B H (Same.refl _) (((S.slot i (l := .d d) h2).slot j (l := .d d') h3).slot m (l := .d d'') h4)⟩
/-- a, b = e -/
theorem go_tup {g : TG} {tgt : Expr} {d : PyData} {ρ' : List Lo} (he : Ed X O M ρ e (.d d)) (hg : PG X tgt g) (ht : Tg X.K O M g d ρ ρ') (k : Go X O M ρ' D rest) (hs : swapsWithSole [tgt] e pos.line X.env = pure false := by rfl) (h1a : (assignEach [tgt] X.env).map (·.2) = [assign tgt X.env] := by rfl) (hw : swappedStores [tgt] e X.env = pure none := by rfl) : Go X O M ρ D (.Assign [tgt] e pos :: rest) :=
  go_cons fun B σ H S => wS_of (ps_asg pe_w hg hs hw h1a) (he B σ H S _ fun v B1 H1 e1 S1 r1 => ht B1 σ H1 v S1 r1 _ fun σ' B2 H2 e2 S2 => k B2 σ' H2 S2)
theorem go_tupV {g : TG} {tgt : Expr} {Φ : Lo → Prop} (he : Ev X O M ρ e Φ) (hg : PG X tgt g) (hf : ∀ l, Φ l → ∃ d ρ', l = .d d ∧ Tg X.K O M g d ρ ρ' ∧ Go X O M ρ' D rest) (hs : swapsWithSole [tgt] e pos.line X.env = pure false := by rfl) (h1a : (assignEach [tgt] X.env).map (·.2) = [assign tgt X.env] := by rfl) (hw : swappedStores [tgt] e X.env = pure none := by rfl) : Go X O M ρ D (.Assign [tgt] e pos :: rest) :=
  go_cons fun B σ H S => wS_of (ps_asg pe_w hg hs hw h1a) (he B σ H S _ fun v l B1 H1 f1 e1 S1 r1 => by
    obtain ⟨d, ρ', rfl, ht, k⟩ := hf l f1
    exact ht B1 σ H1 v S1 r1 _ fun σ' B2 H2 e2 S2 => k B2 σ' H2 S2)

/-! ### for -/
def lp (X : Cx) (O : Og) (D : Ends) (rest : List Stmt) (M : Owns) (ρ : List Lo) : Ends :=
  { D with nx := fun σ H => ∃ B, Sit X.K O B M ρ σ H, ct := fun σ H => ∃ B, Sit X.K O B M ρ σ H, bk := wSs X rest D }
def Og.low (O : Og) (L : Hp) : Og := { O with L := L }
theorem go_turn {M' : Owns} {ρ' : List Lo} {D : Ends} {rest : List Stmt} (hM : M = M' := by rfl) (hρ : ρ = ρ' := by rfl) : Go X O M ρ (lp X O D rest M' ρ') [] := go_nil fun B σ H S => ⟨B, hM ▸ hρ ▸ S⟩
theorem Sit.relow {K : PySem.W.Frag} {B H L : Hp} {σ : L2.St} (S : Sit K O B M ρ σ H) (h : Same L B) : Sit K (O.low L) B M ρ σ H := ⟨S.nx, h, S.own, S.nd, S.sl⟩
theorem Sit.unlow {K : PySem.W.Frag} {B H L : Hp} {σ : L2.St} (S : Sit K (O.low L) B M ρ σ H) (h : Same O.L L) : Sit K O B M ρ σ H := ⟨S.nx, h.trans S.lb, S.own, S.nd, S.sl⟩
theorem go_for {iter : Expr} {body : List Stmt} {n : Nat} {item : Nat → PyData} {g : TG} {pos : Pos} (Mi : Nat → Owns) (ρi : Nat → List Lo) (hI : Iter X O M ρ tg iter n item) (hg : PG X tg g) (h0 : M = Mi 0) (h0' : ρ = ρi 0)
    (turn : ∀ L, ∀ i, i < n → ∃ ρ1, Tg X.K (O.low L) (Mi i) g (item i) (ρi i) ρ1 ∧ Go X (O.low L) (Mi i) ρ1 (lp X (O.low L) D rest (Mi (i + 1)) (ρi (i + 1))) body)
    (after : Go X O (Mi n) (ρi n) D rest) (hp : PassesOwn (model X.prog X.w) X.A X.env X.xe := by exact PassesOwn.never) (hc : X.calm = true := by rfl) (hs : ∀ x, foldedSetIterable iter X.env x = pure x := by intro _; rfl) : Go X O M ρ D (.For tg iter body [] pos :: rest) :=
  go_cons fun B σ H S => by
    obtain ⟨wi, hwi, hW⟩ := hI
    refine wS_of (ps_for hp hc hwi hg pss_w hs) (hW B σ H S _ fun J B' H' G Y e1 S1 W hG hY => ?_)
    have hL : Same O.L B' := S1.lb
    refine for_it W (fun i σ H => ∃ B, Sit X.K (O.low B') B (Mi i) (ρi i) σ H) ⟨B', by rw [← h0, ← h0']; exact S1.relow (Same.refl _)⟩ (fun i σ H _ ⟨B, S⟩ => hG B H S.lb S.bh) (fun i x σ1 H1 H2 hi ⟨B1, S2⟩ hy => ?_) fun σ1 H1 ⟨B1, S2⟩ => after B1 σ1 H1 (S2.unlow hL)
    obtain ⟨B2, n2, r2⟩ := hY i H1 x H2 hi hy B1 S2.lb S2.bh
    obtain ⟨ρ1, ht, hb⟩ := turn B' i hi
    refine ht B2 σ1 H2 x (S2.step n2) r2 _ fun σ2 B3 H3 e3 S3 => ?_
    exact hb B3 σ2 H3 S3
/-! ### while -/
theorem go_while {body : List Stmt} {pos : Pos} {α : Type} (Mi : α → Owns) (ρi : α → List Lo) (μ : α → Nat) (k0 : α) (h0 : M = Mi k0) (h0' : ρ = ρi k0) (Inv' : α → Prop) (hk0 : Inv' k0)
    (turn : ∀ k, Inv' k → (Et X O (Mi k) (ρi k) c false ∧ Go X O (Mi k) (ρi k) D rest) ∨ (Et X O (Mi k) (ρi k) c true ∧ ∀ N : Ends, (∀ k', Inv' k' → μ k' < μ k → ∀ B σ H, Sit X.K O B (Mi k') (ρi k') σ H → N.nx σ H) → N.rt = D.rt → N.bk = wSs X rest D → Go X O (Mi k) (ρi k) N body))
    (hp : PassesOwn (model X.prog X.w) X.A X.env X.xe := by exact PassesOwn.never) : Go X O M ρ D (.While c body [] pos :: rest) :=
  go_cons fun B σ H S => wS_of (ps_while hp pt_w pss_w) ⟨fun m σ H => ∃ k B, μ k = m ∧ Inv' k ∧ Sit X.K O B (Mi k) (ρi k) σ H, ⟨μ k0, k0, B, rfl, hk0, h0 ▸ h0' ▸ S⟩, fun m σ H ⟨k, B, hm, hk, S⟩ => by
    rcases turn k hk with ⟨h1, h2⟩ | ⟨h1, h2⟩
    · exact h1 B σ H S _ fun B1 H1 e1 S1 => iteF (h2 B1 σ H1 S1)
    · refine h1 B σ H S _ fun B1 H1 e1 S1 => iteT ?_
      refine ⟨fun σ' H' => ∃ k' B', Inv' k' ∧ μ k' < μ k ∧ Sit X.K O B' (Mi k') (ρi k') σ' H', ?_, ?_⟩
      · rintro σ' H' ⟨k', B', q1, q2, q3⟩
        exact ⟨μ k', hm ▸ q2, k', B', rfl, q1, q3⟩
      · exact h2 { thn X D rest with nx := fun σ' H' => ∃ k' B', Inv' k' ∧ μ k' < μ k ∧ Sit X.K O B' (Mi k') (ρi k') σ' H', ct := fun σ' H' => ∃ k' B', Inv' k' ∧ μ k' < μ k ∧ Sit X.K O B' (Mi k') (ρi k') σ' H', bk := wSs X rest D } (fun k' q1 q2 B' σ' H' q3 => ⟨k', B', q1, q2, q3⟩) rfl rfl B1 σ H1 S1⟩
end
end K32

set_option maxRecDepth 100000
set_option maxHeartbeats 4000000
namespace K32
open PySem L2
/-! ## 10. List comprehensions -/
def wB (X : Cx) (scope : Scope) (e : Expr) : TE := fun σ H Q => ∀ (s : Shared) (H0 : Hp) (C : Addr) (cl : List (Str × Addr)) (fp : List Addr), wE (X.blk s H0 scope (compEnvC scope cl C X.env) fp) e σ H Q
def wBt (X : Cx) (scope : Scope) (e : Expr) : TT := fun σ H Q => ∀ (s : Shared) (H0 : Hp) (C : Addr) (cl : List (Str × Addr)) (fp : List Addr), wT (X.blk s H0 scope (compEnvC scope cl C X.env) fp) e σ H Q
/-- within a comprehension's block -/
abbrev InB (X : Cx) (scope : Scope) (C : Cx → Prop) : Prop := ∀ (s : Shared) (H : Hp) (C' : Addr) (cl : List (Str × Addr)) (fp : List Addr), C (X.blk s H scope (compEnvC scope cl C' X.env) fp)
section
variable {X : Cx} {O : Og} {M : Owns} {ρ : List Lo} {e a b c tg elt iter : Expr} {es : List Expr} {l la lb : Lo} {pos p1 p2 p3 tp tp2 : Pos} {scope : Scope} {n : Nat} {item : Nat → PyData}
theorem range_map {α : Type} (f : Nat → α) (n : Nat) : (List.range (n + 1)).map f = (List.range n).map f ++ [f n] := by rw [List.range_succ, List.map_append]; rfl
/-- the kept ones -/
def kept {α : Type} (n : Nat) (q : Nat → Bool) (f : Nat → α) : List α := ((List.range n).filter q).map f
theorem kept_succ {α : Type} (n : Nat) (q : Nat → Bool) (f : Nat → α) : kept (n + 1) q f = if q n then kept n q f ++ [f n] else kept n q f := by
  unfold kept
  rw [List.range_succ, List.filter_append, List.map_append]
  cases h : q n <;> simp [h]
theorem kept_len {α : Type} (n : Nat) (q : Nat → Bool) (f : Nat → α) : (kept n q f).length ≤ n := by
  unfold kept
  rw [List.length_map]
  have := List.length_filter_le q (List.range n)
  rw [List.length_range] at this
  exact this
theorem kept_all {α : Type} (n : Nat) (f : Nat → α) : kept n (fun _ => true) f = (List.range n).map f := by
  unfold kept
  rw [List.filter_eq_self.mpr (fun _ _ => rfl)]
/-- the core: the target a name (ij = [i]) or two (ij = [i, j]) -/
theorem tl_lcG {g : TG} {own : List (Str × Nat)} {tt : TT} {ρ1 : Nat → List Lo} {q : Nat → Bool} {ls : Nat → Lo} {wi : TI}
    (hW : ∀ B σ H, Sit X.K O B M ρ σ H → ∀ R : It → Hp → Prop, (∀ J B' H' G Y, Same B B' → Sit X.K O B' M ρ σ H' → L2.Walk J n G Y → (∀ B1 H1, Same B' B1 → Same B1 H1 → G H1) → Gives X.K B' n Y item → R J H') → wi σ H R) (hz : n ≤ 90000)
    (tgt : ∀ B σ H v k M' L, k < n → Sit X.K (O.low L) B M' ρ σ H → Da X.K B v (item k) → ∀ Q : L2.St → Hp → Prop, (∀ σ2, wipe σ2 (own.map (·.2)) = wipe σ (own.map (·.2)) → Sit X.K (O.low L) B M' (ρ1 k) σ2 H → Q σ2 H) → g v (wipe σ (own.map (·.2))) H Q)
    (tst : ∀ L p w k, k < n → ∀ B σ H, Sit X.K (O.low L) B ((p, w) :: M) (ρ1 k) σ H → ∀ Q : Bool → Hp → Prop, (∀ B' H', Same B B' → Sit X.K (O.low L) B' ((p, w) :: M) (ρ1 k) σ H' → Q (q k) H') → tt σ H Q)
    (he : ∀ L p w k, k < n → q k = true → InB X scope fun X' => Ed X' (O.low L) ((p, w) :: M) (ρ1 k) elt (ls k)) (B : Hp) (σ : L2.St) (H : Hp) (S : Sit X.K O B M ρ σ H) (Q : VK)
    (k : ∀ a B' H', O.H a = none → Same B B' → Sit X.K O B' ((a, .lst (kept n q ls)) :: M) ρ σ H' → Q (.ref a) H') : tLc wi g tt (wB X scope elt) (own.map (·.2)) σ H Q := hW B σ H S _ fun J B' H' G Y e1 S1 W hG hY => fun p hp => by
  refine lc_it W (fun m H => ∃ B, Sit X.K (O.low B') B ((p, .lst (kept m q ls)) :: M) ρ σ H) ⟨B', (S1.new hp (w := .lst (kept 0 q ls)) ⟨[], rfl, .nil⟩).relow (Same.refl _)⟩ (fun m H _ ⟨B, S⟩ => hG B H S.lb S.bh) (fun m x H1 H2 hm ⟨B1, S2⟩ hy => ?_) fun H1 ⟨B1, S2⟩ => k p B1 H1 (S1.fresh hp) (e1.trans S2.lb) (S2.unlow S1.lb)
  obtain ⟨B2, n2, r2⟩ := hY m H1 x H2 hm hy B1 S2.lb S2.bh
  have S3 := S2.step n2
  refine tgt B2 σ H2 x m _ B' hm S3 r2 _ fun σ2 hw S4 => ⟨hw, ?_⟩
  refine tst B' p _ m hm B2 σ2 H2 S4 _ fun B3 H3 e3 S5 => ?_
  cases hq : q m with
  | false =>
    refine iteF ⟨B3, ?_⟩
    rw [kept_succ, hq]
    exact ⟨S5.nx, S5.lb, S5.own, S5.nd, Paired.imp (fun _ _ z => LoOk.mono e3 z) S3.sl⟩
  | true =>
    refine iteT ?_
    intro s H0 C cl fp
    refine he B' p _ m hm hq s H0 C cl fp B3 σ2 H3 S5 _ fun y B4 H4 e4 S6 r6 => ?_
    obtain ⟨_, ⟨_, g2, xs, rfl, g3⟩, _⟩ := S6.own _ List.mem_cons_self
    have hl := Paired.len g3
    have hk := kept_len m q ls
    refine ⟨xs, g2, Nat.lt_of_lt_of_le (by rw [hl]; omega : xs.length < 100000) (by decide), B4, ?_⟩
    have S7 := S6.write 0 rfl (w' := .lst (kept m q ls ++ [ls m])) ⟨_, rfl, Paired.app g3 (.cons r6 .nil)⟩
    rw [kept_succ, hq, if_pos rfl]
    exact ⟨S7.nx, S7.lb, S7.own, S7.nd, Paired.imp (fun _ _ z => LoOk.mono (e3.trans e4) z) S3.sl⟩
theorem el_lcG {g : TG} {own : List (Str × Nat)} {ifs : List Expr} {tt : TT} {ρ1 : Nat → List Lo} {q : Nat → Bool} {ls : Nat → Lo} (calm : X.calm = true) (nd : X.N.Nodup) (hI : Iter X O M ρ tg iter n item) (ok : BlkOk X.N X.env.scope scope own)
    (hg : InB X scope fun X' => PG X' tg g) (ht : InB X scope fun X' => PTs X' ifs tt) (hz : n ≤ 90000)
    (tgt : ∀ B σ H v k M' L, k < n → Sit X.K (O.low L) B M' ρ σ H → Da X.K B v (item k) → ∀ Q : L2.St → Hp → Prop, (∀ σ2, wipe σ2 (own.map (·.2)) = wipe σ (own.map (·.2)) → Sit X.K (O.low L) B M' (ρ1 k) σ2 H → Q σ2 H) → g v (wipe σ (own.map (·.2))) H Q)
    (tst : ∀ L p w k, k < n → ∀ B σ H, Sit X.K (O.low L) B ((p, w) :: M) (ρ1 k) σ H → ∀ Q : Bool → Hp → Prop, (∀ B' H', Same B B' → Sit X.K (O.low L) B' ((p, w) :: M) (ρ1 k) σ H' → Q (q k) H') → tt σ H Q)
    (he : ∀ L p w k, k < n → q k = true → InB X scope fun X' => Ed X' (O.low L) ((p, w) :: M) (ρ1 k) elt (ls k)) (hs : ∀ x, foldedSetIterable iter X.env x = pure x := by intro _; rfl) :
    El X O M ρ (.ListComp elt [⟨tg, iter, ifs, 0⟩] scope pos) (kept n q ls) := fun B σ H S Q k => by
  obtain ⟨wi, hwi, hW⟩ := hI
  exact wE_of (pe_lc calm nd hwi ok hg ht (te := wB X scope elt) (fun s H0 C cl fp => ⟨fun pins s' σ' H' Q' I h => wE_at (h s H0 C cl fp) pins s' I⟩) hs) (tl_lcG hW hz tgt tst he B σ H S Q k)
/-- y = [..] on one line, y a local: the store is made within -/
theorem go_setLcG {g : TG} {own : List (Str × Nat)} {ifs : List Expr} {tt : TT} {ρ1 : Nat → List Lo} {q : Nat → Bool} {ls : Nat → Lo} (i : Nat) {y : Str} {py : Pos} {D : Ends} {rest : List Stmt} {spos : Pos} (calm : X.calm = true) (nd : X.N.Nodup) (hy : X.N[i]? = some y) (hyl : X.env.scope.names.lookup y = some .local)
    (hsw : swapsWith (.ListComp elt [⟨tg, iter, ifs, 0⟩] scope pos) (some (.Name y py)) spos.line X.env = pure true) (hI : Iter X O M ρ tg iter n item) (ok : BlkOk X.N X.env.scope scope own)
    (hg : InB X scope fun X' => PG X' tg g) (ht : InB X scope fun X' => PTs X' ifs tt) (hz : n ≤ 90000)
    (tgt : ∀ B σ H v k M' L, k < n → Sit X.K (O.low L) B M' ρ σ H → Da X.K B v (item k) → ∀ Q : L2.St → Hp → Prop, (∀ σ2, wipe σ2 (own.map (·.2)) = wipe σ (own.map (·.2)) → Sit X.K (O.low L) B M' (ρ1 k) σ2 H → Q σ2 H) → g v (wipe σ (own.map (·.2))) H Q)
    (tst : ∀ L p w k, k < n → ∀ B σ H, Sit X.K (O.low L) B ((p, w) :: M) (ρ1 k) σ H → ∀ Q : Bool → Hp → Prop, (∀ B' H', Same B B' → Sit X.K (O.low L) B' ((p, w) :: M) (ρ1 k) σ H' → Q (q k) H') → tt σ H Q)
    (he : ∀ L p w k, k < n → q k = true → InB X scope fun X' => Ed X' (O.low L) ((p, w) :: M) (ρ1 k) elt (ls k))
    (k : ∀ a, O.H a = none → Go X O ((a, .lst (kept n q ls)) :: M) (ρ.set i (.v (.ref a))) D rest) (hs : ∀ x, foldedSetIterable iter X.env x = pure x := by intro _; rfl) :
    Go X O M ρ D (.Assign [.Name y py] (.ListComp elt [⟨tg, iter, ifs, 0⟩] scope pos) spos :: rest) := go_cons fun B σ H S => by
  obtain ⟨wi, hwi, hW⟩ := hI
  exact wS_of (ps_setLc (i := i) calm nd hy hyl hsw hwi ok hg ht (te := wB X scope elt) (fun s H0 C cl fp => ⟨fun pins s' σ' H' Q' I h => wE_at (h s H0 C cl fp) pins s' I⟩) hs) (tl_lcG hW hz tgt tst he B σ H S _ fun a B' H' hO _ S' => k a hO B' _ H' (S'.slot i rfl))
theorem tst_yes {X : Cx} {O : Og} {M : Owns} {n : Nat} {ρ1 : Nat → List Lo} : ∀ L p w k, k < n → ∀ B σ H, Sit X.K (O.low L) B ((p, w) :: M) (ρ1 k) σ H → ∀ Q : Bool → Hp → Prop, (∀ B' H', Same B B' → Sit X.K (O.low L) B' ((p, w) :: M) (ρ1 k) σ H' → Q ((fun _ => true) k) H') → tYes σ H Q :=
  fun L p w k hk B σ H S Q q => q B H (Same.refl _) S
theorem tgt_one {X : Cx} {O : Og} {n i : Nat} {x : Str} {item : Nat → PyData} : ∀ B σ H v k M' L, k < n → Sit X.K (O.low L) B M' ρ σ H → Da X.K B v (item k) → ∀ Q : L2.St → Hp → Prop,
    (∀ σ2, wipe σ2 ([(x, i)].map (·.2)) = wipe σ ([(x, i)].map (·.2)) → Sit X.K (O.low L) B M' (ρ.set i (.d (item k))) σ2 H → Q σ2 H) → gName i v (wipe σ ([(x, i)].map (·.2))) H Q := fun B σ H v k M' L hk S r Q q => by
  have e : ((σ.set i none).set i (some v)) = σ.set i (some v) := List.set_set ..
  show Q ((σ.set i none).set i (some v)) H
  rw [e]
  refine q _ ?_ (S.slot i (l := .d (item k)) r)
  show (σ.set i (some v)).set i none = σ.set i none
  exact List.set_set ..
theorem tgt_two {X : Cx} {O : Og} {n i j : Nat} {x y : Str} {di dj : Nat → PyData} (hij : i ≠ j) : ∀ B σ H v k M' L, k < n → Sit X.K (O.low L) B M' ρ σ H → Da X.K B v (.tuple [di k, dj k]) → ∀ Q : L2.St → Hp → Prop,
    (∀ σ2, wipe σ2 ([(x, i), (y, j)].map (·.2)) = wipe σ ([(x, i), (y, j)].map (·.2)) → Sit X.K (O.low L) B M' ((ρ.set i (.d (di k))).set j (.d (dj k))) σ2 H → Q σ2 H) →
    gTup X.K 2 (gCons (gName i) (gCons (gName j) gNil)) v (wipe σ ([(x, i), (y, j)].map (·.2))) H Q := fun B σ H v k M' L hk S r Q q => by
  cases r with
  | tup h1 h2 =>
    cases h2 with
    | @cons v1 _ _ _ h2 h3 =>
      cases h3 with
      | @cons v2 _ _ _ h3 h4 =>
        cases h4
        refine ⟨_, _, rfl, sqt_mono S.bh h1, rfl, _, _, rfl, _, _, rfl, rfl, ?_⟩
        have hw : wipe σ ([(x, i), (y, j)].map (·.2)) = (σ.set j none).set i none := rfl
        have e : ((wipe σ ([(x, i), (y, j)].map (·.2))).set i (some v1)).set j (some v2) = (σ.set i (some v1)).set j (some v2) := by
          rw [hw, List.set_set, List.set_comm _ _ (Ne.symm hij), List.set_set]
        rw [e]
        refine q _ ?_ ((S.slot i (l := .d (di k)) h2).slot j (l := .d (dj k)) h3)
        show (((σ.set i (some v1)).set j (some v2)).set j none).set i none = (σ.set j none).set i none
        rw [List.set_set, List.set_comm _ _ (Ne.symm hij), List.set_set, List.set_comm _ _ hij]
/-- [elt for x in iter] -/
theorem el_lc (i : Nat) {x : Str} {ls : Nat → Lo} (calm : X.calm = true) (nd : X.N.Nodup) (hI : Iter X O M ρ (.Name x tp) iter n item) (ok : BlkOk X.N X.env.scope scope [(x, i)]) (hg : InB X scope fun X' => PG X' (.Name x tp) (gName i)) (hz : n ≤ 90000)
    (he : ∀ L p w k, k < n → InB X scope fun X' => Ed X' (O.low L) ((p, w) :: M) (ρ.set i (.d (item k))) elt (ls k)) (hs : ∀ x, foldedSetIterable iter X.env x = pure x := by intro _; rfl) :
    El X O M ρ (.ListComp elt [⟨.Name x tp, iter, [], 0⟩] scope pos) ((List.range n).map ls) := by
  have z := el_lcG (pos := pos) (ρ1 := fun k => ρ.set i (.d (item k))) (q := fun _ => true) calm nd hI ok hg (fun _ _ _ _ _ => pts_nil) hz tgt_one tst_yes (fun L p w k hk _ => he L p w k hk) hs
  rw [kept_all] at z
  exact z
/-- [elt for x in iter if c] -/
theorem el_lcIf (i : Nat) {x : Str} {ls : Nat → Lo} {q : Nat → Bool} (calm : X.calm = true) (nd : X.N.Nodup) (hI : Iter X O M ρ (.Name x tp) iter n item) (ok : BlkOk X.N X.env.scope scope [(x, i)]) (hg : InB X scope fun X' => PG X' (.Name x tp) (gName i)) (hz : n ≤ 90000)
    (hc : ∀ L p w k, k < n → InB X scope fun X' => Et X' (O.low L) ((p, w) :: M) (ρ.set i (.d (item k))) c (q k))
    (he : ∀ L p w k, k < n → q k = true → InB X scope fun X' => Ed X' (O.low L) ((p, w) :: M) (ρ.set i (.d (item k))) elt (ls k)) (hs : ∀ x, foldedSetIterable iter X.env x = pure x := by intro _; rfl) :
    El X O M ρ (.ListComp elt [⟨.Name x tp, iter, [c], 0⟩] scope pos) (kept n q ls) :=
  el_lcG (pos := pos) (ρ1 := fun k => ρ.set i (.d (item k))) (tt := wBt X scope c) calm nd hI ok hg (fun s H0 C cl fp => pts_one ⟨fun pins s' σ' H' Q' I h => wT_at (h s H0 C cl fp) pins s' I⟩) hz tgt_one
    (fun L p w k hk B σ H S Q z s H0 C cl fp => hc L p w k hk s H0 C cl fp B σ H S Q z) he hs
/-- [elt for x, y in iter] -/
theorem el_lc2 (i j : Nat) {x y : Str} {ls : Nat → Lo} {di dj : Nat → PyData} {tk : Nat} (hij : i ≠ j) (calm : X.calm = true) (nd : X.N.Nodup) (hI : Iter X O M ρ (.Tuple [.Name x tp, .Name y tp2] tk p1) iter n (fun k => .tuple [di k, dj k])) (ok : BlkOk X.N X.env.scope scope [(x, i), (y, j)])
    (hg : InB X scope fun X' => PG X' (.Tuple [.Name x tp, .Name y tp2] tk p1) (gTup X.K 2 (gCons (gName i) (gCons (gName j) gNil)))) (hz : n ≤ 90000)
    (he : ∀ L p w k, k < n → InB X scope fun X' => Ed X' (O.low L) ((p, w) :: M) ((ρ.set i (.d (di k))).set j (.d (dj k))) elt (ls k)) (hs : ∀ x, foldedSetIterable iter X.env x = pure x := by intro _; rfl) :
    El X O M ρ (.ListComp elt [⟨.Tuple [.Name x tp, .Name y tp2] tk p1, iter, [], 0⟩] scope pos) ((List.range n).map ls) := by
  have z := el_lcG (pos := pos) (ρ1 := fun k => (ρ.set i (.d (di k))).set j (.d (dj k))) (q := fun _ => true) calm nd hI ok hg (fun _ _ _ _ _ => pts_nil) hz (tgt_two hij) tst_yes (fun L p w k hk _ => he L p w k hk) hs
  rw [kept_all] at z
  exact z
theorem el_lc2If (i j : Nat) {x y : Str} {ls : Nat → Lo} {di dj : Nat → PyData} {tk : Nat} {q : Nat → Bool} (hij : i ≠ j) (calm : X.calm = true) (nd : X.N.Nodup) (hI : Iter X O M ρ (.Tuple [.Name x tp, .Name y tp2] tk p1) iter n (fun k => .tuple [di k, dj k])) (ok : BlkOk X.N X.env.scope scope [(x, i), (y, j)])
    (hg : InB X scope fun X' => PG X' (.Tuple [.Name x tp, .Name y tp2] tk p1) (gTup X.K 2 (gCons (gName i) (gCons (gName j) gNil)))) (hz : n ≤ 90000)
    (hc : ∀ L p w k, k < n → InB X scope fun X' => Et X' (O.low L) ((p, w) :: M) ((ρ.set i (.d (di k))).set j (.d (dj k))) c (q k))
    (he : ∀ L p w k, k < n → q k = true → InB X scope fun X' => Ed X' (O.low L) ((p, w) :: M) ((ρ.set i (.d (di k))).set j (.d (dj k))) elt (ls k)) (hs : ∀ x, foldedSetIterable iter X.env x = pure x := by intro _; rfl) :
    El X O M ρ (.ListComp elt [⟨.Tuple [.Name x tp, .Name y tp2] tk p1, iter, [c], 0⟩] scope pos) (kept n q ls) :=
  el_lcG (pos := pos) (ρ1 := fun k => (ρ.set i (.d (di k))).set j (.d (dj k))) (tt := wBt X scope c) calm nd hI ok hg (fun s H0 C cl fp => pts_one ⟨fun pins s' σ' H' Q' I h => wT_at (h s H0 C cl fp) pins s' I⟩) hz (tgt_two hij)
    (fun L p w k hk B σ H S Q z s H0 C cl fp => hc L p w k hk s H0 C cl fp B σ H S Q z) he hs
end
end K32

set_option maxRecDepth 100000
set_option maxHeartbeats 4000000
namespace K32
open PySem L2
/-! ## 11. Several values at once; tables of the module; in; slices; + of lists -/
/-- arguments, some of them new lists of their own: behind them M' and what the values are known as -/
def Ac (X : Cx) (O : Og) (M : Owns) (ρ : List Lo) (es : List Expr) (P : Owns → List Lo → Prop) : Prop :=
  ∀ B σ H, Sit X.K O B M ρ σ H → ∀ Q : List V → Hp → Prop, (∀ vs ls M' B' H', P M' ls → Same B B' → Sit X.K O B' M' ρ σ H' → Los X.K B' vs ls → Q vs H') → wA X es σ H Q
section
variable {X : Cx} {O : Og} {M : Owns} {ρ : List Lo} {e a b c : Expr} {es : List Expr} {l la lb : Lo} {pos p1 p2 p3 : Pos} {D : Ends} {st : Stmt} {rest : List Stmt}
theorem ac_nil : Ac X O M ρ [] (fun M' ls => M' = M ∧ ls = []) := fun B σ H S Q q => wA_of pa_nil (q [] [] M B H ⟨rfl, rfl⟩ (Same.refl _) S .nil)
theorem ac_d {P : Owns → List Lo → Prop} (h1 : Ed X O M ρ e l) (h2 : Ac X O M ρ es P) (hs : starEach (e :: es) X.env = (false, eval e X.env) :: starEach es X.env := by rfl) : Ac X O M ρ (e :: es) (fun M' ls => ∃ r, ls = l :: r ∧ P M' r) :=
  fun B σ H S Q q => wA_of (pa_cons pe_w pa_w hs) (h1 B σ H S _ fun v B1 H1 e1 S1 r1 => h2 B1 σ H1 S1 _ fun vs ls M' B2 H2 hp e2 S2 r2 => q _ (l :: ls) M' B2 H2 ⟨ls, rfl, hp⟩ (e1.trans e2) S2 (.cons (r1.mono e2) r2))
theorem ac_v {Φ : Lo → Prop} {P : Owns → List Lo → Prop} (h1 : Ev X O M ρ e Φ) (h2 : Ac X O M ρ es P) (hs : starEach (e :: es) X.env = (false, eval e X.env) :: starEach es X.env := by rfl) : Ac X O M ρ (e :: es) (fun M' ls => ∃ l r, ls = l :: r ∧ Φ l ∧ P M' r) :=
  fun B σ H S Q q => wA_of (pa_cons pe_w pa_w hs) (h1 B σ H S _ fun v l B1 H1 f1 e1 S1 r1 => h2 B1 σ H1 S1 _ fun vs ls M' B2 H2 hp e2 S2 r2 => q _ (l :: ls) M' B2 H2 ⟨l, ls, rfl, f1, hp⟩ (e1.trans e2) S2 (.cons (r1.mono e2) r2))
theorem ac_l {ls0 : List Lo} {P : Addr → Owns → List Lo → Prop} (h1 : El X O M ρ e ls0) (h2 : ∀ p, O.H p = none → Ac X O ((p, .lst ls0) :: M) ρ es (P p)) (hs : starEach (e :: es) X.env = (false, eval e X.env) :: starEach es X.env := by rfl) :
    Ac X O M ρ (e :: es) (fun M' ls => ∃ p r, O.H p = none ∧ ls = .v (.ref p) :: r ∧ P p M' r) :=
  fun B σ H S Q q => wA_of (pa_cons pe_w pa_w hs) (h1 B σ H S _ fun p B1 H1 hO e1 S1 => h2 p hO B1 σ H1 S1 _ fun vs ls M' B2 H2 hp e2 S2 r2 => q _ (.v (.ref p) :: ls) M' B2 H2 ⟨p, ls, hO, rfl, hp⟩ (e1.trans e2) S2 (.cons (show LoOk X.K B2 (some (.ref p)) (.v (.ref p)) from rfl) r2))
theorem go_par2 (i j : Nat) {x y : Str} {px py pt pt2 : Pos} {kt k2 : Nat} {P : Owns → List Lo → Prop} (nd : X.N.Nodup) (ha : Ac X O M ρ [a, b] P) (k : ∀ M' ls, P M' ls → ∃ l1 l2, ls = [l1, l2] ∧ Go X O M' ((ρ.set i l1).set j l2) D rest)
    (hc : X.calm = true := by rfl) (hi : X.N[i]? = some x := by rfl) (hj : X.N[j]? = some y := by rfl) (hij : i ≠ j := by decide) (hx : X.env.scope.names.lookup x = some .local := by rfl) (hy : X.env.scope.names.lookup y = some .local := by rfl)
    (hw : swappedStores [.Tuple [.Name x px, .Name y py] kt pt] (.Tuple [a, b] k2 pt2) X.env = pure (some [x, y]) := by rfl) (hs : swapsWithSole [.Tuple [.Name x px, .Name y py] kt pt] (.Tuple [a, b] k2 pt2) pos.line X.env = pure false := by rfl) :
    Go X O M ρ D (.Assign [.Tuple [.Name x px, .Name y py] kt pt] (.Tuple [a, b] k2 pt2) pos :: rest) :=
  go_cons fun B σ H S => wS_of (ps_par hc nd hi hj hij hx hy pa_w hw hs) (ha B σ H S _ fun vs ls M' B1 H1 hp e1 S1 r => by
    obtain ⟨l1, l2, rfl, g⟩ := k M' ls hp
    cases r with
    | cons r1 r =>
      cases r with
      | cons r2 r =>
        cases r
        exact ⟨_, _, rfl, g B1 _ H1 ((S1.slot i r1).slot j r2)⟩)
theorem go_par3 (i j m : Nat) {x y z : Str} {px py pz pt pt2 : Pos} {kt k2 : Nat} {P : Owns → List Lo → Prop} (nd : X.N.Nodup) (ha : Ac X O M ρ [a, b, c] P) (k : ∀ M' ls, P M' ls → ∃ l1 l2 l3, ls = [l1, l2, l3] ∧ Go X O M' (((ρ.set i l1).set j l2).set m l3) D rest)
    (hc : X.calm = true := by rfl) (hi : X.N[i]? = some x := by rfl) (hj : X.N[j]? = some y := by rfl) (hm : X.N[m]? = some z := by rfl) (hij : i ≠ j := by decide) (him : i ≠ m := by decide) (hjm : j ≠ m := by decide)
    (hx : X.env.scope.names.lookup x = some .local := by rfl) (hy : X.env.scope.names.lookup y = some .local := by rfl) (hz : X.env.scope.names.lookup z = some .local := by rfl)
    (hw : swappedStores [.Tuple [.Name x px, .Name y py, .Name z pz] kt pt] (.Tuple [a, b, c] k2 pt2) X.env = pure (some [x, y, z]) := by rfl)
    (hs : swapsWithSole [.Tuple [.Name x px, .Name y py, .Name z pz] kt pt] (.Tuple [a, b, c] k2 pt2) pos.line X.env = pure false := by rfl) :
    Go X O M ρ D (.Assign [.Tuple [.Name x px, .Name y py, .Name z pz] kt pt] (.Tuple [a, b, c] k2 pt2) pos :: rest) :=
  go_cons fun B σ H S => wS_of (ps_par3 hc nd hi hj hm hij him hjm hx hy hz pa_w hw hs) (ha B σ H S _ fun vs ls M' B1 H1 hp e1 S1 r => by
    obtain ⟨l1, l2, l3, rfl, g⟩ := k M' ls hp
    cases r with
    | cons r1 r =>
      cases r with
      | cons r2 r =>
        cases r with
        | cons r3 r =>
          cases r
          exact ⟨_, _, _, rfl, g B1 _ H1 (((S1.slot i r1).slot j r2).slot m r3)⟩)

/-! ### a table of the module: k in d, d[k] -/
theorem ed_inK {d : Addr} {es : Array DictEntry} {n : Nat} {z : Str} {r : Option Value} {d' : PyData} (Dk : KDict X.K X.w d es n) (ha : Ed X O M ρ a (.d (.str z))) (hb : Ed X O M ρ b (.v (.ref d))) (hr : PySem.W.nsIn X.K d z = some r)
    (hm : behindInMarks .In b = false := by rfl) : Ed X O M ρ (.Compare a [.In] [b] pos) (.d (.bool r.isSome)) :=
  ed_cmp (op_in_kd Dk) ha hb (fun B σ H S x y hx hy Q q => by cases hx; cases hy; exact ⟨z, r, rfl, rfl, hr, q _ B H (Same.refl _) S (.bl _)⟩) hm
theorem et_inK {d : Addr} {es : Array DictEntry} {n : Nat} {z : Str} {r : Option Value} (Dk : KDict X.K X.w d es n) (ha : Ed X O M ρ a (.d (.str z))) (hb : Ed X O M ρ b (.v (.ref d))) (hr : PySem.W.nsIn X.K d z = some r)
    (hm : behindInMarks .In b = false := by rfl) : Et X O M ρ (.Compare a [.In] [b] pos) r.isSome :=
  et_cmp (op_in_kd Dk) ha hb (fun B σ H S x y hx hy Q q => by cases hx; cases hy; exact ⟨z, r, rfl, rfl, hr, q _ B H (Same.refl _) S (.bl _)⟩) hm
theorem et_ninK {d : Addr} {es : Array DictEntry} {n : Nat} {z : Str} {r : Option Value} (Dk : KDict X.K X.w d es n) (ha : Ed X O M ρ a (.d (.str z))) (hb : Ed X O M ρ b (.v (.ref d))) (hr : PySem.W.nsIn X.K d z = some r)
    (hm : behindInMarks .NotIn b = false := by rfl) : Et X O M ρ (.Compare a [.NotIn] [b] pos) (!r.isSome) :=
  et_cmp (op_notIn_kd Dk) ha hb (fun B σ H S x y hx hy Q q => by cases hx; cases hy; exact ⟨z, r, rfl, rfl, hr, q _ B H (Same.refl _) S (.bl _)⟩) hm
theorem ed_ixK {d : Addr} {z : Str} {v : V} {t : PyData} (hk : KDct X.K X.w d z v) (ht : ∀ B, Da X.K B v t) (ha : Ed X O M ρ a (.v (.ref d))) (hb : Ed X O M ρ b (.d (.str z))) (hs : PlainIx b := by exact fun _ _ => rfl) : Ed X O M ρ (.Subscript a b pos) (.d t) :=
  ed_ixr ix_kdict ha hb (fun B σ H S x y hx hy Q q => by cases hx; cases hy; exact ⟨d, z, v, rfl, rfl, hk, q v B H (Same.refl _) S (ht B)⟩) hs
/-- a global that is an object -/
theorem ed_gv {x : Str} {r : Addr} (hm : X.mg x = some (.ref r)) (hg : Gl X x := by rfl) (hd : (x == ("__debug__" : Str)) = false := by decide) : Ed X O M ρ (.Name x pos) (.v (.ref r)) := fun B σ H S Q k =>
  wE_of (pe_glob (v := .ref r) hg hm rfl hd) (k _ B H (Same.refl _) S rfl)

/-! ### a text in a tuple of texts -/
theorem eqV_str {x y : Str} : eqV (.str x) (.str y) = decide (x = y) := by
  show (x == y) = decide (x = y)
  rw [Bool.beq_eq_decide_eq]
theorem inV_str (x : Str) : ∀ ss : List Str, inV (.str x) (ss.map .str) = ss.contains x
  | [] => rfl
  | s :: r => by
    have ih := inV_str x r
    unfold inV at ih ⊢
    rw [List.map_cons, List.any_cons, ih, List.contains_cons, eqV_str]
    by_cases h : s = x
    · subst h; simp
    · have h2 : ¬ x = s := fun q => h q.symm
      simp [h, h2]
theorem flat_str : ∀ ss : List Str, (ss.map V.str).all flatV = true
  | [] => rfl
  | _ :: r => by rw [List.map_cons, List.all_cons, flat_str r]; rfl
theorem da_strs {K : PySem.W.Frag} {B : Hp} : ∀ {ss : List Str} {vs : List V}, DaAll K B vs (ss.map .str) → vs = ss.map V.str
  | [], _, h => by cases h; rfl
  | _ :: _, _, h => by
    cases h with
    | cons h1 h2 => cases h1; rw [da_strs h2]; rfl
theorem rd_inS {neg : Bool} {x : Str} {ss : List Str} : Rd2 X.K O M ρ (rIn X.K neg) (.d (.str x)) (.d (.tuple (ss.map .str))) (.d (.bool (if neg then !ss.contains x else ss.contains x))) := fun B σ H S v w hv hw Q q => by
  cases hv
  cases hw with
  | tup h1 h2 =>
    have e := da_strs h2
    subst e
    refine ⟨_, _, rfl, .inr (sqt_mono S.bh h1), rfl, flat_str ss, ?_⟩
    rw [inV_str]
    exact q _ B H (Same.refl _) S (.bl _)
theorem ed_inS {x : Str} {ss : List Str} (ha : Ed X O M ρ a (.d (.str x))) (hb : Ed X O M ρ b (.d (.tuple (ss.map .str)))) (hm : behindInMarks .In b = false := by rfl) : Ed X O M ρ (.Compare a [.In] [b] pos) (.d (.bool (ss.contains x))) := ed_cmp op_in_seq ha hb (rd_inS (neg := false)) hm
theorem et_inS {x : Str} {ss : List Str} (ha : Ed X O M ρ a (.d (.str x))) (hb : Ed X O M ρ b (.d (.tuple (ss.map .str)))) (hm : behindInMarks .In b = false := by rfl) : Et X O M ρ (.Compare a [.In] [b] pos) (ss.contains x) := et_cmp op_in_seq ha hb (rd_inS (neg := false)) hm
theorem et_ninS {x : Str} {ss : List Str} (ha : Ed X O M ρ a (.d (.str x))) (hb : Ed X O M ρ b (.d (.tuple (ss.map .str)))) (hm : behindInMarks .NotIn b = false := by rfl) : Et X O M ρ (.Compare a [.NotIn] [b] pos) (!ss.contains x) := et_cmp op_notIn_seq ha hb (rd_inS (neg := true)) hm

/-! ### lists: +, slices -/
theorem rdl_cat {ds es : List PyData} (hz : ds.length + es.length ≤ 100000) : RdL X.K O M ρ rCat (.d (.list ds)) (.d (.list es)) ((ds ++ es).map .d) := fun B σ H S x y hx hy Q q => by
  cases hx with
  | lst h1 h2 =>
    cases hy with
    | lst h3 h4 =>
      refine ⟨_, _, _, _, rfl, rfl, S.bh _ _ h1, S.bh _ _ h3, size_line (by rw [h2.length, h4.length]; exact hz), fun p hp => ?_⟩
      exact q p B _ (S.fresh hp) (Same.refl _) (S.new hp ⟨_, rfl, Los.of_da (h2.append h4)⟩)
theorem el_cat {ds fs : List PyData} (ha : Ed X O M ρ a (.d (.list ds))) (hb : Ed X O M ρ b (.d (.list fs))) (hz : ds.length + fs.length ≤ 100000) : El X O M ρ (.BinOp a .Add b pos) ((ds ++ fs).map .d) := el_op op_cat ha hb (rdl_cat hz)
def Eo (X : Cx) (O : Og) (M : Owns) (ρ : List Lo) (p : Option Expr) (o : Option Int) : Prop := ∃ t, PO X p t ∧ ∀ B σ H, Sit X.K O B M ρ σ H → ∀ Q : Option Int → Hp → Prop, (∀ B' H', Same B B' → Sit X.K O B' M ρ σ H' → Q o H') → t σ H Q
theorem eo_none : Eo X O M ρ none none := ⟨_, po_none, fun B σ H S Q q => q B H (Same.refl _) S⟩
theorem eo_some {i : Int} (h : Ed X O M ρ e (.d (.int i))) : Eo X O M ρ (some e) (some i) := ⟨_, po_some pe_w, fun B σ H S Q q => h B σ H S _ fun v B1 H1 e1 S1 r => by cases r; exact ⟨i, rfl, q B1 H1 e1 S1⟩⟩
def cutD (ds : List PyData) (lo hi : Option Int) : List PyData := (ds.drop (HT.sIx ds.length 0 lo)).take (HT.sIx ds.length ds.length hi - HT.sIx ds.length 0 lo)
theorem el_slice {ds : List PyData} {lo hi : Option Expr} {l h : Option Int} (he : Ed X O M ρ e (.d (.list ds))) (hl : Eo X O M ρ lo l) (hh : Eo X O M ρ hi h) : El X O M ρ (.Subscript e (.Slice lo hi none p2) pos) ((cutD ds l h).map .d) := fun B σ H S Q q => by
  obtain ⟨tl, pl, rl⟩ := hl
  obtain ⟨th, ph, rh⟩ := hh
  refine wE_of (pe_slice sl_list pe_w pl ph) (he B σ H S _ fun v B1 H1 e1 S1 r1 => rl B1 σ H1 S1 _ fun B2 H2 e2 S2 => rh B2 σ H2 S2 _ fun B3 H3 e3 S3 => ?_)
  have r3 : Da X.K B3 v (.list ds) := Da.mono e3 (Da.mono e2 r1)
  cases r3 with
  | lst h1 h2 =>
    refine ⟨_, _, rfl, SqL.of (S3.bh _ _ h1), fun p hp => q p B3 _ (S3.fresh hp) ((e1.trans e2).trans e3) (S3.new hp ⟨_, rfl, Los.of_da ?_⟩)⟩
    unfold cutV cutD
    rw [h2.length]
    exact (h2.drop _).take _
theorem cutD_nat {ds : List PyData} {i j : Nat} (h1 : i ≤ j) (h2 : j ≤ ds.length) : cutD ds (some i) (some j) = (ds.drop i).take (j - i) := by
  unfold cutD
  rw [HT.sIx_nat, HT.sIx_nat, Nat.min_eq_left h2, Nat.min_eq_left (Nat.le_trans h1 h2)]
theorem cutD_to {ds : List PyData} {j : Nat} (h2 : j ≤ ds.length) : cutD ds none (some j) = ds.take j := by
  unfold cutD
  rw [HT.sIx_nat, Nat.min_eq_left h2, HT.sIx_none, List.drop_zero, Nat.sub_zero]
theorem cutD_from {ds : List PyData} {i : Nat} (h2 : i ≤ ds.length) : cutD ds (some i) none = ds.drop i := by
  unfold cutD
  rw [HT.sIx_nat, Nat.min_eq_left h2, HT.sIx_none, List.take_of_length_le (by rw [List.length_drop]; omega)]
/-- xs[::-1] -/
theorem el_revL {ds : List PyData} {k : Nat} (he : Ed X O M ρ e (.d (.list ds))) : El X O M ρ (.Subscript e (.Slice none none (some (.UnaryOp .USub (.Constant (.int 1) k p1) p2)) p3) pos) (ds.reverse.map .d) := fun B σ H S Q q =>
  wE_of (pe_revL pe_w) (he B σ H S _ fun v B1 H1 e1 S1 r1 => by
    cases r1 with
    | lst h1 h2 => exact ⟨_, _, rfl, SqL.of (S1.bh _ _ h1), fun p hp => q p B1 _ (S1.fresh hp) e1 (S1.new hp ⟨_, rfl, Los.of_da h2.reverse⟩)⟩)
end
end K32

set_option maxRecDepth 100000
set_option maxHeartbeats 4000000
namespace K32
open PySem L2
/-! ## 12. Built-ins: isinstance, list, tuple, max, min, abs, sum -/
end K32
namespace L2
theorem Room.r64 {k : Nat} {X : Cx} (hr : Room k X.A) : K32.Room64 X := by have := hr.un; unfold K32.Room64; omega
end L2
namespace K32
open PySem L2
def isNonD : PyData → Bool
  | .none => true
  | _ => false
theorem isNon_da {K : PySem.W.Frag} {B : Hp} {v : V} {d : PyData} (h : Da K B v d) : decide (v = .non) = isNonD d := by
  cases h <;> simp [isNonD]
def tyD : PyData → String
  | .none => "NoneType"
  | .bool _ => "bool"
  | .int _ => "int"
  | .str _ => "str"
  | .list _ => "list"
  | .tuple _ => "tuple"
  | .dict _ => "dict"
theorem ty_of {K : PySem.W.Frag} {B H : Hp} {v : V} {d : PyData} (h : Da K B v d) (e : Same B H) : TyX K H v (.type (tyD d)) := by
  cases h with
  | non => exact .base .non
  | bl b => exact .base (.bl b)
  | int i => exact .base (.int i)
  | str x => exact .base (.str x)
  | lst h1 h2 => exact .base (.lst (e _ _ h1))
  | tup h1 h2 =>
    rcases sqt_mono e h1 with (q | ⟨o, q⟩) | ⟨o, its, n, q1, q2, _⟩
    · exact .base (.tup q)
    · exact .fTuple q
    · exact .kTuple q1 q2
theorem Sit.skip {K : PySem.W.Frag} {O : Og} {B H : Hp} {M : Owns} {ρ : List Lo} {σ : L2.St} {p : Addr × Own} (S : Sit K O B (p :: M) ρ σ H) : Sit K O B M ρ σ H := ⟨S.nx, S.lb, fun q hq => S.own q (List.mem_cons_of_mem _ hq), (List.nodup_cons.mp S.nd).2, S.sl⟩
section
variable {X : Cx} {O : Og} {M : Owns} {ρ : List Lo} {e a b c : Expr} {es : List Expr} {l la lb : Lo} {pos p1 p2 p3 : Pos} {D : Ends} {st : Stmt} {rest : List Stmt}
/-- the name of a built-in class, as a value -/
theorem pe_ty {x : Str} {n : String} (hm : X.mg x = none) (hv : bootBuiltins x = some (.type n)) (hg : Gl X x := by rfl) (hn : x ≠ "__name__" := by decide) (hd : (x == ("__debug__" : Str)) = false := by decide) : PE X (.Name x pos) (tC (.ty n)) := pe_bltn (v := .ty n) hg hm hv rfl hn hd
theorem ed_ty {x : Str} {n : String} (hm : X.mg x = none) (hv : bootBuiltins x = some (.type n) := by decide +kernel) (hg : Gl X x := by rfl) (hn : x ≠ "__name__" := by decide) (hd : (x == ("__debug__" : Str)) = false := by decide) : Ed X O M ρ (.Name x pos) (.v (.ty n)) :=
  fun B σ H S Q k => wE_of (pe_ty hm hv hg hn hd) (k _ B H (Same.refl _) S rfl)
theorem ed_isi {d : PyData} {n : String} {r : Bool} (hm : X.mg "isinstance" = none) (ha : Ed X O M ρ a (.d d)) (hb : Ed X O M ρ b (.v (.ty n))) (hk : kitB (tyD d) n = some r := by decide +kernel) (hg : Gl X "isinstance" := by rfl)
    (hs : starEach [a, b] X.env = (false, eval a X.env) :: starEach [b] X.env := by rfl) (hs2 : starEach [b] X.env = (false, eval b X.env) :: starEach [] X.env := by rfl)
    (hpl : (backTo pos (starEach [b] X.env)).any (·.1) = false := by rfl) : Ed X O M ρ (.Call (.Name "isinstance" p1) [a, b] [] pos) (.d (.bool r)) :=
  ed_callB call_isi hm (ea_cons ha (ea_cons hb ea_nil hs2) hs) (fun B σ H S vs r1 Q q => by
    cases r1 with
    | cons r1 r2 =>
      cases r2 with
      | cons r2 r3 =>
        cases r3
        cases r2
        exact ⟨_, _, _, _, r, rfl, .ty n, ty_of r1 S.bh, kit_ty hk, q _ B H (Same.refl _) S (.bl r)⟩) (by decide +kernel) hg (by decide) (by decide) hs hpl
theorem ed_isn {x : Str} {d : PyData} {q1 : Pos} (n t : String) (r : Bool) (hm : X.mg "isinstance" = none) (ha : Ed X O M ρ a (.d d)) (hx : X.mg x = none) (ht : tyD d = t := by rfl) (hk : kitB t n = some r := by decide +kernel)
    (hv : bootBuiltins x = some (.type n) := by decide +kernel) (hgx : Gl X x := by rfl) (hn : x ≠ "__name__" := by decide) (hd : (x == ("__debug__" : Str)) = false := by decide) (hg : Gl X "isinstance" := by rfl)
    (hs : starEach [a, .Name x q1] X.env = (false, eval a X.env) :: starEach [.Name x q1] X.env := by rfl) (hs2 : starEach [.Name x q1] X.env = (false, eval (.Name x q1) X.env) :: starEach [] X.env := by rfl)
    (hpl : (backTo pos (starEach [.Name x q1] X.env)).any (·.1) = false := by rfl) : Ed X O M ρ (.Call (.Name "isinstance" p1) [a, .Name x q1] [] pos) (.d (.bool r)) :=
  ed_isi hm ha (ed_ty hx hv hgx hn hd) (by rw [ht]; exact hk) hg hs hs2 hpl
theorem ed_neI {x y : Int} (ha : Ed X O M ρ a (.d (.int x))) (hb : Ed X O M ρ b (.d (.int y))) : Ed X O M ρ (.Compare a [.NotEq] [b] pos) (.d (.bool (!decide (x = y)))) := by
  have h := ed_cmp (pos := pos) op_ne ha hb (rd_scalN (fun _ _ => da_int) (fun _ _ => da_int) rfl)
  rw [dec_i] at h
  exact h
theorem et_neI {x y : Int} (ha : Ed X O M ρ a (.d (.int x))) (hb : Ed X O M ρ b (.d (.int y))) : Et X O M ρ (.Compare a [.NotEq] [b] pos) (!decide (x = y)) := by
  have h := et_cmp (pos := pos) op_ne ha hb (rd_scalN (fun _ _ => da_int) (fun _ _ => da_int) rfl)
  rw [dec_i] at h
  exact h
theorem ed_is {l' : Lo} (h : Ed X O M ρ e l) (q : l = l') : Ed X O M ρ e l' := q ▸ h
theorem et_is {k k' : Bool} (h : Et X O M ρ e k) (q : k = k') : Et X O M ρ e k' := q ▸ h
theorem ed_b {k k' : Bool} (h : Ed X O M ρ e (.d (.bool k))) (q : k = k' := by first | rfl | decide +kernel) : Ed X O M ρ e (.d (.bool k')) := q ▸ h
theorem et_b {k k' : Bool} (h : Et X O M ρ e k) (q : k = k' := by first | rfl | decide +kernel) : Et X O M ρ e k' := q ▸ h
/-- isinstance(x, (list, tuple)) -/
theorem ed_isi2 {d : PyData} {x y : Str} {n m : String} {r : Bool} {k1 : Nat} {q1 q2 q3 : Pos} (hm : X.mg "isinstance" = none) (ha : Ed X O M ρ a (.d d)) (hx : X.mg x = none) (hy : X.mg y = none) (hr : PySem.W.kitAny X.K (.type (tyD d)) [.type n, .type m] = some r)
    (hxv : bootBuiltins x = some (.type n) := by decide +kernel) (hyv : bootBuiltins y = some (.type m) := by decide +kernel) (hg : Gl X "isinstance" := by rfl) (hgx : Gl X x := by rfl) (hgy : Gl X y := by rfl) (hnx : x ≠ "__name__" := by decide) (hny : y ≠ "__name__" := by decide)
    (hdx : (x == ("__debug__" : Str)) = false := by decide) (hdy : (y == ("__debug__" : Str)) = false := by decide)
    (hs : starEach [a, .Tuple [.Name x q1, .Name y q2] k1 q3] X.env = (false, eval a X.env) :: starEach [.Tuple [.Name x q1, .Name y q2] k1 q3] X.env := by rfl)
    (hs2 : starEach [.Tuple [.Name x q1, .Name y q2] k1 q3] X.env = (false, eval (.Tuple [.Name x q1, .Name y q2] k1 q3) X.env) :: starEach [] X.env := by rfl)
    (hs3 : starEach [.Name x q1, .Name y q2] X.env = (false, eval (.Name x q1) X.env) :: starEach [.Name y q2] X.env := by rfl) (hs4 : starEach [.Name y q2] X.env = (false, eval (.Name y q2) X.env) :: starEach [] X.env := by rfl)
    (hpl : (backTo pos (starEach [.Tuple [.Name x q1, .Name y q2] k1 q3] X.env)).any (·.1) = false := by rfl) : Ed X O M ρ (.Call (.Name "isinstance" p1) [a, .Tuple [.Name x q1, .Name y q2] k1 q3] [] pos) (.d (.bool r)) := fun B σ H S Q q =>
  wE_of (pe_callB call_isiT hg hm (by decide +kernel) (pa_cons pe_w (pa_cons (pe_tup (pa_cons (pe_ty hx hxv hgx hnx hdx) (pa_cons (pe_ty hy hyv hgy hny hdy) pa_nil hs4) hs3)) pa_nil hs2) hs) (by decide) (by decide) hs hpl) (ha B σ H S _ fun v B1 H1 e1 S1 r1 => by
    refine ⟨(by show 2 ≤ sizeLine; decide), fun p hp => ?_⟩
    have S2 := (S1.new hp (o := .tup [.ty n, .ty m]) (w := .is (.tup [.ty n, .ty m])) rfl).skip
    have hs : Same H1 (upd H1 p (.tup [.ty n, .ty m])) := fun b u k => by rw [upd_ne (ne_of_none k hp)]; exact k
    exact ⟨v, p, _, _, _, r, rfl, upd_same, .cons (.ty n) (.cons (.ty m) .nil), ty_of r1 S2.bh, hr, q _ B1 _ e1 S2 (.bl r)⟩)
/-- list(x), of a list or a tuple: a new list -/
theorem rcl_list {d : PyData} {ds : List PyData} (h : d = .list ds ∨ d = .tuple ds) : RcL X.K O M ρ (fun xs H Q => ∃ p ys, xs = [V.ref p] ∧ (SqL X.K H p ys ∨ SqT X.K H p ys) ∧ ∀ l, H l = none → Q (.ref l) (upd H l (.lst ys))) [.d d] (ds.map .d) := fun B σ H S vs r Q q => by
  cases r with
  | cons r1 r2 =>
    cases r2
    rcases h with rfl | rfl
    · cases r1 with
      | lst h1 h2 => exact ⟨_, _, rfl, .inl (SqL.of (S.bh _ _ h1)), fun p hp => q p B _ (S.fresh hp) (Same.refl _) (S.new hp ⟨_, rfl, Los.of_da h2⟩)⟩
    · cases r1 with
      | tup h1 h2 => exact ⟨_, _, rfl, .inr (sqt_mono S.bh h1), fun p hp => q p B _ (S.fresh hp) (Same.refl _) (S.new hp ⟨_, rfl, Los.of_da h2⟩)⟩
theorem el_list {d : PyData} {ds : List PyData} (h : d = .list ds ∨ d = .tuple ds) (hm : X.mg "list" = none) (ha : Ed X O M ρ a (.d d)) (hg : Gl X "list" := by rfl) (hs : starEach [a] X.env = (false, eval a X.env) :: starEach [] X.env := by rfl) : El X O M ρ (.Call (.Name "list" p1) [a] [] pos) (ds.map .d) :=
  el_callT call_list_of hm (ea_cons ha ea_nil hs) (rcl_list h) (by decide +kernel) hg (by decide) (by decide) hs
/-- tuple(xs) of a list -/
theorem ed_tuple {ds : List PyData} (hm : X.mg "tuple" = none) (ha : Ed X O M ρ a (.d (.list ds))) (hg : Gl X "tuple" := by rfl) (hs : starEach [a] X.env = (false, eval a X.env) :: starEach [] X.env := by rfl) : Ed X O M ρ (.Call (.Name "tuple" p1) [a] [] pos) (.d (.tuple ds)) :=
  ed_callT call_tuple_of hm (ea_cons ha ea_nil hs) (fun B σ H S vs r Q q => by
    cases r with
    | cons r1 r2 =>
      cases r2
      cases r1 with
      | @lst _ xs _ h1 h2 =>
        refine ⟨_, _, rfl, .inl ⟨SqL.of (S.bh _ _ h1), fun p hp => ?_⟩⟩
        have hB : B p = none := by
          cases e : B p with
          | none => rfl
          | some u => rw [S.bh _ _ e] at hp; cases hp
        have hb : Same B (upd B p (.tup xs)) := fun b u k => by rw [upd_ne (ne_of_none k hB)]; exact k
        exact q _ _ _ hb (S.newD hp) (.tup (SqT.of upd_same) (h2.mono hb))) (by decide +kernel) hg (by decide) (by decide) hs
theorem ed_max2 {i j : Int} (hc : X.calm = true) (hm : X.mg "max" = none) (ha : Ed X O M ρ a (.d (.int i))) (hb : Ed X O M ρ b (.d (.int j))) (hg : Gl X "max" := by rfl)
    (hs : starEach [a, b] X.env = (false, eval a X.env) :: starEach [b] X.env := by rfl) (hs2 : starEach [b] X.env = (false, eval b X.env) :: starEach [] X.env := by rfl) (hpl : (backTo pos (starEach [b] X.env)).any (·.1) = false := by rfl) :
    Ed X O M ρ (.Call (.Name "max" p1) [a, b] [] pos) (.d (.int (if j > i then j else i))) :=
  ed_callB (call_max2 hc) hm (ea_cons ha (ea_cons hb ea_nil hs2) hs) (fun B σ H S vs r Q q => by
    cases r with
    | cons r1 r2 =>
      cases r2 with
      | cons r2 r3 =>
        cases r3; cases r1; cases r2
        exact ⟨i, j, rfl, q _ B H (Same.refl _) S (.int _)⟩) (by decide +kernel) hg (by decide) (by decide) hs hpl
theorem ed_min2 {i j : Int} (hc : X.calm = true) (hm : X.mg "min" = none) (ha : Ed X O M ρ a (.d (.int i))) (hb : Ed X O M ρ b (.d (.int j))) (hg : Gl X "min" := by rfl)
    (hs : starEach [a, b] X.env = (false, eval a X.env) :: starEach [b] X.env := by rfl) (hs2 : starEach [b] X.env = (false, eval b X.env) :: starEach [] X.env := by rfl) (hpl : (backTo pos (starEach [b] X.env)).any (·.1) = false := by rfl) :
    Ed X O M ρ (.Call (.Name "min" p1) [a, b] [] pos) (.d (.int (if j < i then j else i))) :=
  ed_callB (call_min2 hc) hm (ea_cons ha (ea_cons hb ea_nil hs2) hs) (fun B σ H S vs r Q q => by
    cases r with
    | cons r1 r2 =>
      cases r2 with
      | cons r2 r3 =>
        cases r3; cases r1; cases r2
        exact ⟨i, j, rfl, q _ B H (Same.refl _) S (.int _)⟩) (by decide +kernel) hg (by decide) (by decide) hs hpl
theorem ed_isNone {d : PyData} {j : Nat} {p : Pos} (ha : Ed X O M ρ a (.d d)) : Ed X O M ρ (.Compare a [.Is] [.Constant .none j p] pos) (.d (.bool (isNonD d))) := fun B σ H S Q q =>
  wE_of (pe_cmp (pc_isN pe_w)) (ha B σ H S _ fun v B1 H1 e1 S1 r1 => by
    refine q _ B1 H1 e1 S1 ?_
    have z : decide (v = .non) = isNonD d := isNon_da r1
    rw [z]
    exact .bl _)
theorem et_isNone {d : PyData} {j : Nat} {p : Pos} (ha : Ed X O M ρ a (.d d)) : Et X O M ρ (.Compare a [.Is] [.Constant .none j p] pos) (isNonD d) := fun B σ H S Q q =>
  wT_of (pt_cmp (pc_isN pe_w)) (ha B σ H S _ fun v B1 H1 e1 S1 r1 => ⟨_, rfl, by
    have z : decide (v = .non) = isNonD d := isNon_da r1
    rw [z]
    exact q B1 H1 e1 S1⟩)
theorem ed_notNone {d : PyData} {j : Nat} {p : Pos} (ha : Ed X O M ρ a (.d d)) : Ed X O M ρ (.Compare a [.IsNot] [.Constant .none j p] pos) (.d (.bool (!isNonD d))) := fun B σ H S Q q =>
  wE_of (pe_cmp (pc_notN pe_w)) (ha B σ H S _ fun v B1 H1 e1 S1 r1 => by
    refine q _ B1 H1 e1 S1 ?_
    have z : (!decide (v = .non)) = (!isNonD d) := by rw [isNon_da r1]
    rw [z]
    exact .bl _)
end
end K32

set_option maxRecDepth 100000
set_option maxHeartbeats 4000000
namespace K32
open PySem L2
/-! ## 13. pop in more places; forgetting slots -/
abbrev Wk (ρ ρ' : List Lo) : Prop := Paired (fun a b => b = Lo.no ∨ b = a) ρ ρ'
theorem Sit.wk {K : PySem.W.Frag} {O : Og} {B H : Hp} {M : Owns} {ρ ρ' : List Lo} {σ : L2.St} (S : Sit K O B M ρ σ H) (w : Wk ρ ρ') : Sit K O B M ρ' σ H := ⟨S.nx, S.lb, S.own, S.nd, by
  have go : ∀ {ρ ρ' : List Lo} {σ : L2.St}, Wk ρ ρ' → Sls K B σ ρ → Sls K B σ ρ' := by
    intro ρ ρ' σ w
    induction w generalizing σ with
    | nil => intro h; exact h
    | cons r _ ih =>
      intro h
      cases h with
      | @cons v _ _ _ h1 h2 =>
        rcases r with rfl | rfl
        · exact .cons (by cases v <;> trivial) (ih h2)
        · exact .cons h1 (ih h2)
  exact go w S.sl⟩
theorem los_last {K : PySem.W.Frag} {B : Hp} : ∀ {ms : List Lo} {us : List V} {m : Lo}, Los K B us (ms ++ [m]) → Los K B us.dropLast ms
  | [], _, _, h => by
    cases h with
    | cons _ h2 => cases h2; exact .nil
  | y :: r, _, m, h => by
    cases h with
    | @cons u _ us _ h1 h2 =>
      have hne : us ≠ [] := fun z => by have := Paired.len h2; rw [z] at this; simp at this
      rw [List.dropLast_cons_of_ne_nil hne]
      exact .cons h1 (los_last h2)
section
variable {X : Cx} {O : Og} {M : Owns} {ρ : List Lo} {e a b c : Expr} {es : List Expr} {l la lb : Lo} {pos p1 p2 p3 : Pos} {D : Ends} {st : Stmt} {rest : List Stmt}
theorem go_turnW {M' : Owns} {ρ' : List Lo} {D : Ends} {rest : List Stmt} (hM : M = M' := by rfl) (w : Wk ρ ρ' := by repeat' (first | exact Paired.nil | refine Paired.cons (.inr rfl) ?_ | refine Paired.cons (.inl rfl) ?_)) : Go X O M ρ (lp X O D rest M' ρ') [] :=
  go_nil fun B σ H S => ⟨B, hM ▸ S.wk w⟩
/-- targets = l.pop() -/
theorem go_popG (j : Nat) {tgt o : Expr} {g : TG} {p : Addr} {ls : List Lo} {d : PyData} {ρ' : List Lo} {ap cp : Pos} (ho : Ed X O M ρ o (.v (.ref p))) (hj : M[j]? = some (p, .lst (ls ++ [.d d]))) (hg : PG X tgt g) (ht : Tg X.K O (M.set j (p, .lst ls)) g d ρ ρ') (k : Go X O (M.set j (p, .lst ls)) ρ' D rest)
    (hbase : attributeBase o "pop" X.env (eval o X.env) = eval o X.env := by rfl) (hline : (ap.endLine == cp.line) = true := by rfl)
    (hs : swapsWithSole [tgt] (.Call (.Attribute o "pop" ap) [] [] cp) pos.line X.env = pure false := by rfl) (hw : swappedStores [tgt] (.Call (.Attribute o "pop" ap) [] [] cp) X.env = pure none := by rfl)
    (h1a : (assignEach [tgt] X.env).map (·.2) = [assign tgt X.env] := by rfl) : Go X O M ρ D (.Assign [tgt] (.Call (.Attribute o "pop" ap) [] [] cp) pos :: rest) :=
  go_cons fun B σ H S => wS_of (ps_asg (pe_bm0 PySem.F.plainAttrs_list PySem.F.slot_list_pop PySem.F.type_list_pop mt_pop pe_w hbase hline) hg hs hw h1a)
    (ho B σ H S _ fun v B1 H1 e1 S1 r1 => by
      have ev : v = .ref p := r1
      subst ev
      obtain ⟨_, ⟨_, h2, xs, rfl, h3⟩, _⟩ := S1.own _ (List.mem_of_getElem? hj)
      have hl := Paired.len h3
      rw [List.length_append, List.length_singleton] at hl
      obtain ⟨y, g1, g2⟩ := Paired.at2 (i := ls.length) (b := .d d) h3 (by rw [List.getElem?_append_right (Nat.le_refl _), Nat.sub_self]; rfl)
      refine ⟨.inl ⟨rfl, _, SqL.of h2⟩, p, xs, y, rfl, rfl, h2, by rw [hl, Nat.add_sub_cancel]; exact g1, ?_⟩
      refine ht B1 σ _ y (S1.write j hj (w' := .lst ls) ⟨_, rfl, los_last h3⟩) g2 _ fun σ' B2 H2 e2 S2 => k B2 σ' H2 S2)
/-- l.pop() for its effect -/
theorem go_popE (j : Nat) {o : Expr} {p : Addr} {ls : List Lo} {ap cp : Pos} (ho : Ed X O M ρ o (.v (.ref p))) (hj : M[j]? = some (p, .lst (ls ++ [l]))) (k : Go X O (M.set j (p, .lst ls)) ρ D rest)
    (hbase : attributeBase o "pop" X.env (eval o X.env) = eval o X.env := by rfl) (hline : (ap.endLine == cp.line) = true := by rfl)
    (hs : swapsWith (.Call (.Attribute o "pop" ap) [] [] cp) none pos.line X.env = pure false := by rfl) : Go X O M ρ D (.Expr (.Call (.Attribute o "pop" ap) [] [] cp) pos :: rest) :=
  go_cons fun B σ H S => wS_of (ps_expr (pe_bm0 PySem.F.plainAttrs_list PySem.F.slot_list_pop PySem.F.type_list_pop mt_pop pe_w hbase hline) hs)
    (ho B σ H S _ fun v B1 H1 e1 S1 r1 => by
      have ev : v = .ref p := r1
      subst ev
      obtain ⟨_, ⟨_, h2, xs, rfl, h3⟩, _⟩ := S1.own _ (List.mem_of_getElem? hj)
      have hl := Paired.len h3
      rw [List.length_append, List.length_singleton] at hl
      obtain ⟨y, g1, g2⟩ := Paired.at2 (i := ls.length) (b := l) h3 (by rw [List.getElem?_append_right (Nat.le_refl _), Nat.sub_self]; rfl)
      refine ⟨.inl ⟨rfl, _, SqL.of h2⟩, p, xs, y, rfl, rfl, h2, by rw [hl, Nat.add_sub_cancel]; exact g1, ?_⟩
      exact k B1 σ _ (S1.write j hj (w' := .lst ls) ⟨_, rfl, los_last h3⟩))
/-- q.append(l.pop()), both own lists -/
theorem go_appendPop (j m : Nat) {o o2 : Expr} {p r : Addr} {ls ms : List Lo} {ap cp ap2 cp2 : Pos} (ho : Ed X O M ρ o (.v (.ref r))) (hm : M[m]? = some (r, .lst ms)) (ho2 : Ed X O M ρ o2 (.v (.ref p))) (hj : M[j]? = some (p, .lst (ls ++ [l]))) (hjm : j ≠ m) (hz : ms.length < 100000)
    (k : Go X O ((M.set j (p, .lst ls)).set m (r, .lst (ms ++ [l]))) ρ D rest)
    (hbase : attributeBase o "append" X.env (eval o X.env) = eval o X.env := by rfl)
    (hfew : ((backTo cp (starEach [.Call (.Attribute o2 "pop" ap2) [] [] cp2] X.env)).all (fun x => !x.1) && (backToKw cp (keywordEach [] X.env)).all (fun x => x.1.isSome)
      && decide ([Expr.Call (.Attribute o2 "pop" ap2) [] [] cp2].length + ([] : List Keyword).length + (if ([] : List Keyword).isEmpty then 0 else 1) < 30)) = true := by rfl)
    (hline : (ap.endLine == cp.line) = true := by rfl) (hs : starEach [.Call (.Attribute o2 "pop" ap2) [] [] cp2] X.env = (false, eval (.Call (.Attribute o2 "pop" ap2) [] [] cp2) X.env) :: starEach [] X.env := by rfl)
    (hbase2 : attributeBase o2 "pop" X.env (eval o2 X.env) = eval o2 X.env := by rfl) (hline2 : (ap2.endLine == cp2.line) = true := by rfl)
    (hsw : swapsWith (.Call (.Attribute o "append" ap) [.Call (.Attribute o2 "pop" ap2) [] [] cp2] [] cp) none pos.line X.env = pure false := by rfl) :
    Go X O M ρ D (.Expr (.Call (.Attribute o "append" ap) [.Call (.Attribute o2 "pop" ap2) [] [] cp2] [] cp) pos :: rest) :=
  go_cons fun B σ H S => wS_of (ps_expr (pe_bm PySem.F.plainAttrs_list PySem.F.slot_list_append PySem.F.type_list_append mt_append pe_w (pa_cons (pe_bm0 PySem.F.plainAttrs_list PySem.F.slot_list_pop PySem.F.type_list_pop mt_pop pe_w hbase2 hline2) pa_nil hs) hbase hfew hline hs) hsw)
    (ho B σ H S _ fun v B1 H1 e1 S1 r1 => by
      have ev : v = .ref r := r1
      subst ev
      obtain ⟨_, ⟨_, h2, xs, rfl, _⟩, _⟩ := S1.own _ (List.mem_of_getElem? hm)
      refine ⟨.inl ⟨rfl, _, SqL.of h2⟩, ho2 B1 σ H1 S1 _ fun y B2 H2 e2 S2 r2 => ?_⟩
      have ev : y = .ref p := r2
      subst ev
      obtain ⟨_, ⟨_, h2, xs, rfl, h3⟩, _⟩ := S2.own _ (List.mem_of_getElem? hj)
      have hl := Paired.len h3
      rw [List.length_append, List.length_singleton] at hl
      obtain ⟨y, g1, g2⟩ := Paired.at2 (i := ls.length) (b := l) h3 (by rw [List.getElem?_append_right (Nat.le_refl _), Nat.sub_self]; rfl)
      refine ⟨.inl ⟨rfl, _, SqL.of h2⟩, p, xs, y, rfl, rfl, h2, by rw [hl, Nat.add_sub_cancel]; exact g1, ?_⟩
      have S3 := S2.write j hj (w' := .lst ls) ⟨_, rfl, los_last h3⟩
      have hm3 : (M.set j (p, .lst ls))[m]? = some (r, .lst ms) := by rw [List.getElem?_set_ne hjm]; exact hm
      obtain ⟨_, ⟨_, k2, ys, rfl, k3⟩, _⟩ := S3.own _ (List.mem_of_getElem? hm3)
      refine ⟨r, ys, y, rfl, rfl, k2, Nat.lt_of_lt_of_le (by rw [Paired.len k3]; exact hz) (by decide), ?_⟩
      exact k B2 σ _ (S3.write m hm3 ⟨_, rfl, Paired.app k3 (.cons g2 .nil)⟩))
end
end K32

/-! # The data: kinds, nodes, trees, as plain Lean; how they stand as Python's data; what the program's and the law's defs compute -/
namespace K32
open PySem
inductive Kd where
  | let_ (i : Nat) | cnt | pr (a b : Kd) | sm (a b : Kd) | fn (a b : Kd)
  deriving DecidableEq, Repr
def Kd.enc : Kd → PyData
  | .let_ i => .tuple [.str "letter", .int i]
  | .cnt => .tuple [.str "count"]
  | .pr a b => .tuple [.str "pair", a.enc, b.enc]
  | .sm a b => .tuple [.str "sum", a.enc, b.enc]
  | .fn a b => .tuple [.str "fun", a.enc, b.enc]
def Kd.word : Kd → Str
  | .let_ _ => "letter"
  | .cnt => "count"
  | .pr _ _ => "pair"
  | .sm _ _ => "sum"
  | .fn _ _ => "fun"
def Kd.signs : Kd → Nat
  | .let_ _ => 1
  | .cnt => 1
  | .pr a b => 1 + a.signs + b.signs
  | .sm a b => 1 + a.signs + b.signs
  | .fn a b => 1 + a.signs + b.signs
def Kd.deep : Kd → Nat
  | .let_ _ => 1
  | .cnt => 1
  | .pr a b => 1 + max a.deep b.deep
  | .sm a b => 1 + max a.deep b.deep
  | .fn a b => 1 + max a.deep b.deep
/-- letters from 0 to 5 -/
def Kd.lets : Kd → Bool
  | .let_ i => decide (i ≤ 5)
  | .cnt => true
  | .pr a b => a.lets && b.lets
  | .sm a b => a.lets && b.lets
  | .fn a b => a.lets && b.lets
/-- a kind of the program's -/
def Kd.ok (k : Kd) : Bool := k.lets && decide (k.signs ≤ 60) && decide (k.deep ≤ 12)
inductive Nd where
  | name (i : Nat) | told (n : Nat) | fn (A : Kd) | call | both | first | second | left (B : Kd) | right (A : Kd) | which | next | turns (A : Kd) | lt
  deriving DecidableEq, Repr
def Nd.word : Nd → Str
  | .name _ => "name" | .told _ => "told" | .fn _ => "fun" | .call => "call" | .both => "both" | .first => "first" | .second => "second"
  | .left _ => "left" | .right _ => "right" | .which => "which" | .next => "next" | .turns _ => "turns" | .lt => "let"
def Nd.enc : Nd → PyData
  | .name i => .tuple [.str "name", .int i]
  | .told n => .tuple [.str "told", .int n]
  | .fn A => .tuple [.str "fun", A.enc]
  | .call => .tuple [.str "call"]
  | .both => .tuple [.str "both"]
  | .first => .tuple [.str "first"]
  | .second => .tuple [.str "second"]
  | .left B => .tuple [.str "left", B.enc]
  | .right A => .tuple [.str "right", A.enc]
  | .which => .tuple [.str "which"]
  | .next => .tuple [.str "next"]
  | .turns A => .tuple [.str "turns", A.enc]
  | .lt => .tuple [.str "let"]
/-- for each child how many binders more are around it -/
def Nd.binds : Nd → List Nat
  | .name _ => [] | .told _ => [] | .fn _ => [1] | .call => [0, 0] | .both => [0, 0] | .first => [0] | .second => [0]
  | .left _ => [0] | .right _ => [0] | .which => [0, 1, 1] | .next => [0] | .turns _ => [0, 1, 0] | .lt => [0, 1]
inductive Tr where
  | name (i : Nat) | told (n : Nat) | fn (A : Kd) (b : Tr) | call (f a : Tr) | both (a b : Tr) | first (p : Tr) | second (p : Tr)
  | left (B : Kd) (a : Tr) | right (A : Kd) (a : Tr) | which (s l r : Tr) | next (n : Tr) | turns (A : Kd) (n u s : Tr) | lt (a b : Tr)
  deriving DecidableEq, Repr
namespace Tr
def node : Tr → Nd
  | name i => .name i | told n => .told n | fn A _ => .fn A | call _ _ => .call | both _ _ => .both | first _ => .first | second _ => .second
  | left B _ => .left B | right A _ => .right A | which _ _ _ => .which | next _ => .next | turns A _ _ _ => .turns A | lt _ _ => .lt
def parts : Tr → List Tr
  | name _ => [] | told _ => [] | fn _ b => [b] | call f a => [f, a] | both a b => [a, b] | first p => [p] | second p => [p]
  | left _ a => [a] | right _ a => [a] | which s l r => [s, l, r] | next n => [n] | turns _ n u s => [n, u, s] | lt a b => [a, b]
def enc : Tr → PyData
  | name i => .tuple [(Nd.name i).enc, .list []]
  | told n => .tuple [(Nd.told n).enc, .list []]
  | fn A b => .tuple [(Nd.fn A).enc, .list [b.enc]]
  | call f a => .tuple [Nd.call.enc, .list [f.enc, a.enc]]
  | both a b => .tuple [Nd.both.enc, .list [a.enc, b.enc]]
  | first p => .tuple [Nd.first.enc, .list [p.enc]]
  | second p => .tuple [Nd.second.enc, .list [p.enc]]
  | left B a => .tuple [(Nd.left B).enc, .list [a.enc]]
  | right A a => .tuple [(Nd.right A).enc, .list [a.enc]]
  | which s l r => .tuple [Nd.which.enc, .list [s.enc, l.enc, r.enc]]
  | next n => .tuple [Nd.next.enc, .list [n.enc]]
  | turns A n u s => .tuple [(Nd.turns A).enc, .list [n.enc, u.enc, s.enc]]
  | lt a b => .tuple [Nd.lt.enc, .list [a.enc, b.enc]]
theorem enc_eq (t : Tr) : t.enc = .tuple [t.node.enc, .list (t.parts.map enc)] := by cases t <;> rfl
theorem parts_len (t : Tr) : t.parts.length = t.node.binds.length := by cases t <;> rfl
/-- the nodes in a row -/
def flat : Tr → List Nd
  | name i => [.name i]
  | told n => [.told n]
  | fn A b => .fn A :: b.flat
  | call f a => .call :: (f.flat ++ a.flat)
  | both a b => .both :: (a.flat ++ b.flat)
  | first p => .first :: p.flat
  | second p => .second :: p.flat
  | left B a => .left B :: a.flat
  | right A a => .right A :: a.flat
  | which s l r => .which :: (s.flat ++ (l.flat ++ r.flat))
  | next n => .next :: n.flat
  | turns A n u s => .turns A :: (n.flat ++ (u.flat ++ s.flat))
  | lt a b => .lt :: (a.flat ++ b.flat)
def flats (ts : List Tr) : List Nd := ts.flatMap flat
theorem flat_eq (t : Tr) : t.flat = t.node :: flats t.parts := by cases t <;> simp [flat, flats, node, parts]
def size : Tr → Nat
  | name _ => 1
  | told _ => 1
  | fn _ b => 1 + b.size
  | call f a => 1 + f.size + a.size
  | both a b => 1 + a.size + b.size
  | first p => 1 + p.size
  | second p => 1 + p.size
  | left _ a => 1 + a.size
  | right _ a => 1 + a.size
  | which s l r => 1 + s.size + l.size + r.size
  | next n => 1 + n.size
  | turns _ n u s => 1 + n.size + u.size + s.size
  | lt a b => 1 + a.size + b.size
theorem flat_len (t : Tr) : t.flat.length = t.size := by
  induction t <;> simp only [flat, size, List.length_cons, List.length_append, List.length_nil] <;> omega
def deep : Tr → Nat
  | name _ => 1
  | told _ => 1
  | fn _ b => 1 + b.deep
  | call f a => 1 + max f.deep a.deep
  | both a b => 1 + max a.deep b.deep
  | first p => 1 + p.deep
  | second p => 1 + p.deep
  | left _ a => 1 + a.deep
  | right _ a => 1 + a.deep
  | which s l r => 1 + max s.deep (max l.deep r.deep)
  | next n => 1 + n.deep
  | turns _ n u s => 1 + max n.deep (max u.deep s.deep)
  | lt a b => 1 + max a.deep b.deep
/-- open names by m further out, those beyond d binders -/
def lift (m : Nat) : Nat → Tr → Tr
  | d, name i => if d ≤ i then name (i + m) else name i
  | _, told n => told n
  | d, fn A b => fn A (lift m (d + 1) b)
  | d, call f a => call (lift m d f) (lift m d a)
  | d, both a b => both (lift m d a) (lift m d b)
  | d, first p => first (lift m d p)
  | d, second p => second (lift m d p)
  | d, left B a => left B (lift m d a)
  | d, right A a => right A (lift m d a)
  | d, which s l r => which (lift m d s) (lift m (d + 1) l) (lift m (d + 1) r)
  | d, next n => next (lift m d n)
  | d, turns A n u s => turns A (lift m d n) (lift m (d + 1) u) (lift m d s)
  | d, lt a b => lt (lift m d a) (lift m (d + 1) b)
/-- o in the place of the name d out -/
def put (o : Tr) : Nat → Tr → Tr
  | d, name i => if i = d then lift d 0 o else if d < i then name (i - 1) else name i
  | _, told n => told n
  | d, fn A b => fn A (put o (d + 1) b)
  | d, call f a => call (put o d f) (put o d a)
  | d, both a b => both (put o d a) (put o d b)
  | d, first p => first (put o d p)
  | d, second p => second (put o d p)
  | d, left B a => left B (put o d a)
  | d, right A a => right A (put o d a)
  | d, which s l r => which (put o d s) (put o (d + 1) l) (put o (d + 1) r)
  | d, next n => next (put o d n)
  | d, turns A n u s => turns A (put o d n) (put o (d + 1) u) (put o d s)
  | d, lt a b => lt (put o d a) (put o (d + 1) b)
end Tr
/-! ### kinds of nodes -/
/-- the kind of a node by those of its children, as the program looks at it -/
def kindBy : Nd → List Kd → Option Kd
  | .fn A, [b] => if (Kd.fn A b).ok then some (.fn A b) else none
  | .both, [a, b] => if (Kd.pr a b).ok then some (.pr a b) else none
  | .left B, [a] => if (Kd.sm a B).ok then some (.sm a B) else none
  | .right A, [b] => if (Kd.sm A b).ok then some (.sm A b) else none
  | .call, [.fn A B, a] => if A = a then some B else none
  | .first, [.pr a _] => some a
  | .second, [.pr _ b] => some b
  | .which, [.sm _ _, l, r] => if l = r then some l else none
  | .next, [.cnt] => some .cnt
  | .turns A, [.cnt, u, s] => if u = A ∧ s = A then some A else none
  | .lt, [_, b] => some b
  | _, _ => none
/-- what a node binds around its next child -/
def boundBy : Nd → List Kd → Option Kd
  | .which, [.sm a _] => some a
  | .which, [.sm _ b, _] => some b
  | .lt, [a] => some a
  | .fn A, [] => some A
  | .turns A, [_] => some A
  | _, _ => none
/-- the kind of a tree, names' kinds the nearest first -/
def ty : List Kd → Tr → Option Kd
  | Γ, .name i => Γ[i]?
  | _, .told _ => some .cnt
  | Γ, .fn A b => (ty (A :: Γ) b).bind fun b => kindBy (.fn A) [b]
  | Γ, .call f a => (ty Γ f).bind fun f => (ty Γ a).bind fun a => kindBy .call [f, a]
  | Γ, .both a b => (ty Γ a).bind fun a => (ty Γ b).bind fun b => kindBy .both [a, b]
  | Γ, .first p => (ty Γ p).bind fun p => kindBy .first [p]
  | Γ, .second p => (ty Γ p).bind fun p => kindBy .second [p]
  | Γ, .left B a => (ty Γ a).bind fun a => kindBy (.left B) [a]
  | Γ, .right A b => (ty Γ b).bind fun b => kindBy (.right A) [b]
  | Γ, .which s l r => match ty Γ s with
    | some (.sm a b) => (ty (a :: Γ) l).bind fun l => (ty (b :: Γ) r).bind fun r => kindBy .which [.sm a b, l, r]
    | _ => none
  | Γ, .next n => (ty Γ n).bind fun n => kindBy .next [n]
  | Γ, .turns A n u s => (ty Γ n).bind fun n => (ty (A :: Γ) u).bind fun u => (ty Γ s).bind fun s => kindBy (.turns A) [n, u, s]
  | Γ, .lt a b => (ty Γ a).bind fun a => (ty (a :: Γ) b).bind fun b => kindBy .lt [a, b]
end K32

set_option maxRecDepth 100000
set_option maxHeartbeats 4000000
namespace K32
open PySem L2
/-! ## 14. The module's tables, nodes as data -/
def intsD (ns : List Nat) : List PyData := ns.map fun i : Nat => .int i
theorem da_ints {K : PySem.W.Frag} {B : Hp} : ∀ ns : List Nat, DaAll K B (ns.map fun i : Nat => V.int i) (intsD ns)
  | [] => .nil
  | n :: r => .cons (.int n) (da_ints r)
theorem da_strs' {K : PySem.W.Frag} {B : Hp} : ∀ ss : List Str, DaAll K B (ss.map V.str) (ss.map .str)
  | [] => .nil
  | n :: r => .cons (.str n) (da_strs' r)
theorem tab_ok {K : PySem.W.Frag} {x k : Str} {vs : List V} (h : tabB K x k vs = true) : PySem.W.nsIn K (He.ga K x) k = some (some (.ref (tabV K x k))) ∧ ∀ H, SqT K H (tabV K x k) vs := by
  obtain ⟨h1, h2⟩ := He.ba h
  exact ⟨of_decide_eq_true h1, tupA_ok h2⟩
theorem tabs_ok {K : PySem.W.Frag} {x k z : Str} (h : tabS K x k z = true) : ∃ t, PySem.W.nsIn K (He.ga K x) k = some (some (.str z t)) := by
  unfold tabS at h
  cases e : PySem.W.nsIn K (He.ga K x) k with
  | none => rw [e] at h; cases h
  | some r =>
    rw [e] at h
    cases r with
    | none => cases h
    | some u =>
      cases u with
      | str y t =>
        have ey : y = z := of_decide_eq_true h
        exact ⟨t, by rw [ey]⟩
      | _ => cases h
section
variable {w : World} {K : PySem.W.Frag} {mg : Str → Option Value} (T : Tx w K mg)
include T
theorem binds_tab (n : Nd) : ∃ a, PySem.W.nsIn K (He.ga K "BINDS") n.word = some (some (.ref a)) ∧ ∀ H, SqT K H a (n.binds.map fun i : Nat => V.int i) := by
  cases n with
  | name i => exact ⟨_, tab_ok (vs := []) (T.xs 0)⟩
  | told i => exact ⟨_, tab_ok (vs := []) (T.xs 1)⟩
  | fn A => exact ⟨_, tab_ok (vs := [.int 1]) (T.xs 2)⟩
  | call => exact ⟨_, tab_ok (vs := [.int 0, .int 0]) (T.xs 3)⟩
  | both => exact ⟨_, tab_ok (vs := [.int 0, .int 0]) (T.xs 4)⟩
  | first => exact ⟨_, tab_ok (vs := [.int 0]) (T.xs 5)⟩
  | second => exact ⟨_, tab_ok (vs := [.int 0]) (T.xs 6)⟩
  | left B => exact ⟨_, tab_ok (vs := [.int 0]) (T.xs 7)⟩
  | right A => exact ⟨_, tab_ok (vs := [.int 0]) (T.xs 8)⟩
  | which => exact ⟨_, tab_ok (vs := [.int 0, .int 1, .int 1]) (T.xs 9)⟩
  | next => exact ⟨_, tab_ok (vs := [.int 0]) (T.xs 10)⟩
  | turns A => exact ⟨_, tab_ok (vs := [.int 0, .int 1, .int 0]) (T.xs 11)⟩
  | lt => exact ⟨_, tab_ok (vs := [.int 0, .int 1]) (T.xs 12)⟩
theorem withKind_tab (H : Hp) : SqT K H (He.ga K "WITH_KIND") ([("fun" : Str), "left", "right", "turns"].map V.str) := tupA_ok (T.xs 13) H
theorem number_tab (H : Hp) : SqT K H (He.ga K "NUMBER") [V.str "count"] := tupA_ok (T.xs 14) H
theorem rules_tab (H : Hp) : SqT K H (He.ga K "RULES") ([("call" : Str), "first", "second", "which", "turns", "next", "let", "long"].map V.str) := tupA_ok (T.xs 15) H
end
theorem node_shape (n : Nd) : ∃ r, n.enc = .tuple (.str n.word :: r) := by cases n <;> exact ⟨_, rfl⟩
theorem tree_shape (t : Tr) : t.enc = .tuple [t.node.enc, .list (t.parts.map Tr.enc)] := t.enc_eq
section
variable {X : Cx} {O : Og} {M : Owns} {ρ : List Lo} {e a b c : Expr} {es : List Expr} {l la lb : Lo} {pos p1 p2 p3 : Pos} {D : Ends} {st : Stmt} {rest : List Stmt} {j : Nat}
/-- node[0] -/
theorem ed_word {n : Nd} (h : Ed X O M ρ a (.d n.enc)) : Ed X O M ρ (.Subscript a (.Constant (.int 0) j p1) pos) (.d (.str n.word)) := by
  obtain ⟨r, e⟩ := node_shape n
  rw [e] at h
  exact ed_ixT h ed_int (atI_nat (j := 0) rfl)
/-- BINDS[word] -/
theorem ed_binds {n : Nd} (T : Tx X.w X.K X.mg) (h : Ed X O M ρ a (.d (.str n.word))) (hg : Gl X "BINDS" := by rfl) (hs : PlainIx a := by exact fun _ _ => rfl) : Ed X O M ρ (.Subscript (.Name "BINDS" p1) a pos) (.d (.tuple (intsD n.binds))) := by
  obtain ⟨r, e1, e2⟩ := binds_tab T n
  obtain ⟨es, m, D⟩ := T.tt.tab 0
  exact ed_ixK (v := .ref r) ⟨es, m, _, D.at_, D.lit, e1, rfl⟩ (fun B => .tup (e2 B) (da_ints _)) (ed_gv (g_BINDS T) hg) h hs
theorem et_inBinds {n : Nd} (T : Tx X.w X.K X.mg) (h : Ed X O M ρ a (.d (.str n.word))) (hg : Gl X "BINDS" := by rfl) : Et X O M ρ (.Compare a [.NotIn] [.Name "BINDS" p1] pos) false := by
  obtain ⟨r, e1, e2⟩ := binds_tab T n
  obtain ⟨es, m, D⟩ := T.tt.tab 0
  exact et_ninK D h (ed_gv (g_BINDS T) hg) e1
theorem ed_withKind (T : Tx X.w X.K X.mg) (hg : Gl X "WITH_KIND" := by rfl) : Ed X O M ρ (.Name "WITH_KIND" p1) (.d (.tuple ([("fun" : Str), "left", "right", "turns"].map .str))) := ed_gr (g_WITH_KIND T) (fun B => .tup (withKind_tab T B) (da_strs' _)) hg
theorem ed_number (T : Tx X.w X.K X.mg) (hg : Gl X "NUMBER" := by rfl) : Ed X O M ρ (.Name "NUMBER" p1) (.d Kd.cnt.enc) := ed_gr (g_NUMBER T) (fun B => .tup (number_tab T B) (.cons (.str _) .nil)) hg
theorem ed_rules (T : Tx X.w X.K X.mg) (hg : Gl X "RULES" := by rfl) : Ed X O M ρ (.Name "RULES" p1) (.d (.tuple ([("call" : Str), "first", "second", "which", "turns", "next", "let", "long"].map .str))) := ed_gr (g_RULES T) (fun B => .tup (rules_tab T B) (da_strs' _)) hg
theorem et_or4 {d : Expr} (h1 : Et X O M ρ a false) (h2 : Et X O M ρ b false) (h3 : Et X O M ρ c false) (h4 : Et X O M ρ d false) : Et X O M ρ (.BoolOp .Or [a, b, c, d] pos) false := et_w (ew_or h1 fun _ => ew_or h2 fun _ => ew_or h3 fun _ => ew_or1 h4)
theorem et_or3 (h1 : Et X O M ρ a false) (h2 : Et X O M ρ b false) (h3 : Et X O M ρ c false) : Et X O M ρ (.BoolOp .Or [a, b, c] pos) false := et_w (ew_or h1 fun _ => ew_or h2 fun _ => ew_or1 h3)
end
end K32

set_option maxRecDepth 100000
set_option maxHeartbeats 4000000
namespace K32
open PySem L2
/-! ## 15. Rules of our own: a <= b <= c, all(list), t[::-1] of a tuple -/
section
variable {X : Cx} {O : Og} {M : Owns} {ρ : List Lo} {e a b c : Expr} {es : List Expr} {l la lb lc : Lo} {pos p1 p2 p3 : Pos} {D : Ends} {st : Stmt} {rest : List Stmt} {j : Nat}
theorem et_chain {op op' : CmpOp} {r r' : R2} {k k' : Bool} (ho : OpR X (compareOp op) r) (ho' : OpR X (compareOp op') r') (ha : Ed X O M ρ a la) (hb : Ed X O M ρ b lb) (hr : Rd2 X.K O M ρ r la lb (.d (.bool k))) (hc : k = true → Ed X O M ρ c lc) (hr' : Rd2 X.K O M ρ r' lb lc (.d (.bool k')))
    (hm : lastMarks [op, op'] [b, c] = false := by with_unfolding_all rfl) : Et X O M ρ (.Compare a [op, op'] [b, c] pos) (k && k') := fun B σ H S Q q =>
  wT_of (pt_chain ho ho' pe_w pe_w pe_w hm) (ha B σ H S _ fun x B1 H1 e1 S1 r1 => hb B1 σ H1 S1 _ fun y B2 H2 e2 S2 r2 =>
    hr B2 σ H2 S2 x y (r1.mono e2) r2 _ fun v B3 H3 e3 S3 r3 => by
      cases r3
      refine ⟨k, rfl, ?_⟩
      cases k with
      | false => exact iteF ⟨false, rfl, q B3 H3 ((e1.trans e2).trans e3) S3⟩
      | true =>
        refine iteT (hc rfl B3 σ H3 S3 _ fun z B4 H4 e4 S4 r4 => hr' B4 σ H4 S4 y z ((r2.mono e3).mono e4) r4 _ fun v B5 H5 e5 S5 r5 => ?_)
        cases r5
        exact ⟨k', rfl, q B5 H5 ((((e1.trans e2).trans e3).trans e4).trans e5) S5⟩)
theorem et_leLe {i k m : Int} (ha : Ed X O M ρ a (.d (.int i))) (hb : Ed X O M ρ b (.d (.int k))) (hc : Ed X O M ρ c (.d (.int m))) (hm : lastMarks [.LtE, .LtE] [b, c] = false := by with_unfolding_all rfl) : Et X O M ρ (.Compare a [.LtE, .LtE] [b, c] pos) (decide (i ≤ k) && decide (k ≤ m)) :=
  et_chain op_le op_le ha hb rd_intB (fun _ => hc) rd_intB hm
/-- all of a list of truth values -/
theorem da_bools {K : PySem.W.Frag} {B : Hp} : ∀ {bs : List Bool} {vs : List V}, DaAll K B vs (bs.map .bool) → vs = bs.map V.bl
  | [], _, h => by cases h; rfl
  | _ :: _, _, h => by
    cases h with
    | cons h1 h2 => cases h1; rw [da_bools h2]; rfl
theorem ed_all {bs : List Bool} (hc : X.calm = true) (hm : X.mg "all" = none) (ha : Ed X O M ρ a (.d (.list (bs.map .bool)))) (hg : Gl X "all" := by rfl) (hs : starEach [a] X.env = (false, eval a X.env) :: starEach [] X.env := by rfl) : Ed X O M ρ (.Call (.Name "all" p1) [a] [] pos) (.d (.bool (bs.all id))) :=
  ed_callB (cr_all hc) hm (ea_cons ha ea_nil hs) (fun B σ H S vs r Q q => by
    cases r with
    | cons r1 r2 =>
      cases r2
      cases r1 with
      | lst h1 h2 =>
        have e := da_bools h2
        subst e
        exact ⟨_, bs, rfl, SqL.of (S.bh _ _ h1), q _ B H (Same.refl _) S (.bl _)⟩) (by decide +kernel) hg (by decide) (by decide) hs
end
/-! ### t[::-1] of a short tuple -/
section
open PySem.Spec PyProof.Rows
variable {prog : Program} {w : World} {A : Around} {E : Value → Shared → Prop} {s : Shared}
theorem adj_rev {n : Nat} (h : n ≤ 3) : Builtin.Slice.sliceAdjust none none (-1) (n : Int) = ((n : Int) - 1, -1) := by
  rcases n with _ | _ | _ | _ | n
  · decide
  · decide
  · decide
  · decide
  · omega
theorem places_rev {n : Nat} (h : n ≤ 3) : Builtin.Slice.slicePlaces ((n : Int) - 1) (-1) (-1) = n := by
  rcases n with _ | _ | _ | _ | n
  · decide
  · decide
  · decide
  · decide
  · omega
theorem pick_rev {xs : Array Value} (h : xs.size ≤ 3) : ((List.range xs.size).filterMap fun (k : Nat) => xs[(((xs.size : Int) - 1) + (k : Int) * (-1)).toNat]?).toArray = xs.toList.reverse.toArray := by
  obtain ⟨l⟩ := xs
  rcases l with _ | ⟨a, _ | ⟨b, _ | ⟨c, _ | ⟨d, r⟩⟩⟩⟩
  · rfl
  · rfl
  · rfl
  · rfl
  · simp at h
theorem sliceRev {sl : Addr} {vl vu vs : Value} {n : Nat} {Q : Int × Int × Nat → Shared → Prop} (hn : n ≤ 3) (hs : s.heap.IsSliceOf sl vl vu vs) (pl : IsPart vl none) (pu : IsPart vu none) (ps : IsPart vs (some (-1))) (h : Q ((n : Int) - 1, -1, n) s) :
    wpAny (model prog w) A (Builtin.Slice.sliceApplied (.ref sl) (pure (n : Int))) Q E s := by
  obtain ⟨os, hos, hcs, hds⟩ := id hs
  unfold Builtin.Slice.sliceApplied Builtin.Slice.sliceFields
  refine wpAny_bind (wpAny_bind (wpAny_field hos hds (x := vl) rfl (wpAny_bind (wpAny_field hos hds (x := vu) rfl (wpAny_bind (wpAny_field hos hds (x := vs) rfl (wpAny_pure ?_)))))))
  refine wpAny_bind (HT.slicePart_ ps ?_)
  show wpAny _ _ (if ((-1 : Int) == 0) = true then _ else _) _ _ s
  rw [if_neg (by decide)]
  refine wpAny_bind (HT.slicePart_ pl (wpAny_bind (HT.slicePart_ pu (wpAny_bind (wpAny_pure ?_)))))
  show wpAny _ _ (match Builtin.Slice.sliceAdjust none none (-1) (n : Int) with | (lo, hi) => pure (lo, (-1 : Int), Builtin.Slice.slicePlaces lo hi (-1))) _ _ s
  rw [adj_rev hn]
  show wpAny _ _ (pure ((n : Int) - 1, (-1 : Int), Builtin.Slice.slicePlaces ((n : Int) - 1) (-1) (-1))) _ _ s
  rw [places_rev hn]
  exact wpAny_pure h
theorem getItem_tupRev {t sl : Addr} {items : Array Value} {vl vu vs : Value} {Q : Value → Shared → Prop} (ht : IsTup s.heap t items) (hn : items.size ≤ 3) (hs : s.heap.IsSliceOf sl vl vu vs) (pl : IsPart vl none) (pu : IsPart vu none) (ps : IsPart vs (some (-1)))
    (h : Q (.ref s.heap.objs.size) { s with heap := s.heap.push { cls := .type "tuple", data := .seq items.toList.reverse.toArray } }) : wpAny (model prog w) A (getItem (.ref t) (.ref sl)) Q E s := by
  have hsz : sizeOk (.seq items.toList.reverse.toArray) := by
    show items.toList.reverse.toArray.size ≤ sizeLine
    rw [List.size_toArray, List.length_reverse, Array.length_toList]
    exact Nat.le_trans hn (by decide)
  obtain ⟨os, hos, hcs, hds⟩ := id hs
  have hTs : s.TypeIs (.ref sl) "slice" := ⟨os, hos, hcs⟩
  unfold getItem
  try with_reducible refine wpAny_holding ?_
  first | refine wpAny_bind (wpAny_pure ?_) | skip
  refine wpAny_bind (wpAny_sequenceKey ht.typeIs (by decide) ?_)
  refine wpAny_bind (wpAny_callSpecial?_slot (name := Str.ofString "__getitem__") ht.typeIs PyProof.Rows.slot_tuple_getitem (wpAny_call_entry PyProof.Rows.slot_tuple_getitem ht.typeIs entry_tuple_getitem ?_ (args_tuple_getitem _ _)))
  show wpAny _ _ (Builtin.Tuple.tupleItemsOf (.ref t) >>= _) _ _ s
  refine wpAny_bind (tupleItemsOf_ ht ?_)
  refine wpAny_bind (wpAny_typeOf hTs ?_)
  rw [if_pos (by decide)]
  refine wpAny_bind (sliceRev hn hs pl pu ps ?_)
  have hno : ¬ (((((items.size : Nat) : Int) - 1) == 0 && (-1 : Int) == 1 && items.size == items.size) = true) := by
    intro q
    rw [Bool.and_eq_true, Bool.and_eq_true] at q
    exact absurd q.1.2 (by decide)
  show wpAny _ _ (if ((((items.size : Nat) : Int) - 1) == 0 && (-1 : Int) == 1 && items.size == items.size) = true then _ else _) _ _ s
  rw [if_neg hno, pick_rev hn]
  first
    | exact wpAny_bind (m := Builtin.Tuple.tupleExact _) (wpAny_newObj_type (wpAny_pure ⟨_, rfl, wpAny_pure h⟩) hsz)
    | exact wpAny_bind (m := Builtin.Tuple.tupleExact _) (wpAny_newObj_type (wpAny_bind (wpAny_pure (wpAny_pure ⟨_, rfl, wpAny_pure h⟩))) hsz)
    | exact wpAny_bind (wpAny_bind (m := Builtin.Tuple.tupleExact _) (wpAny_newObj_type (wpAny_pure (wpAny_pure ⟨_, rfl, wpAny_pure h⟩)) hsz))
    | exact wpAny_bind (wpAny_bind (m := Builtin.Tuple.tupleExact _) (wpAny_newObj_type (wpAny_pure ⟨_, rfl, wpAny_pure h⟩) hsz))
end
def tRevT (K : PySem.W.Frag) (te : TE) : TE := fun σ H Q => te σ H fun x H1 => ∃ a xs, x = .ref a ∧ SqT K H1 a xs ∧ xs.length ≤ 3 ∧ ∀ p, H1 p = none → Q (.ref p) (upd H1 p (.tup xs.reverse))
section
open PySem.Spec PyProof.Rows
variable {X : Cx} {O : Og} {M : Owns} {ρ : List Lo} {e a b c : Expr} {es : List Expr} {l la lb lc : Lo} {pos p1 p2 p3 : Pos} {D : Ends} {st : Stmt} {rest : List Stmt} {j : Nat}
theorem pe_revT {te : TE} {k : Nat} (he : PE X e te) : PE X (.Subscript e (.Slice none none (some (.UnaryOp .USub (.Constant (.int 1) k p1) p2)) p3) pos) (tRevT X.K te) := by
  refine ⟨fun pins s σ H Q I hw => ?_⟩
  refine Subscript_ (L2.thn (he.run pins s σ H _ I hw) fun v s1 ⟨x, H1, I1, r1, q1⟩ => ?_)
  obtain ⟨a, xs, ex, hx, hz3, q⟩ := q1
  subst ex
  cases r1
  have hst : PO X (some (.UnaryOp .USub (.Constant (.int 1) k p1) p2)) (tPart (tUn (rU fun i => .int (-i)) (tC (.int 1)))) := po_some (pe_un un_neg pe_int)
  refine wpAny_Slice (L2.thn (po_none.run pins s1 σ H1 (fun o H2 => o = none ∧ H2 = H1) I1 ⟨rfl, rfl⟩) fun vl s2 ⟨l, H2, I2, pl, el, e2⟩ => ?_)
  subst el e2
  refine L2.thn (po_none.run pins s2 σ H2 (fun o H3 => o = none ∧ H3 = H2) I2 ⟨rfl, rfl⟩) fun vu s3 ⟨u, H3, I3, pu, eu, e3⟩ => ?_
  subst eu e3
  refine L2.thn (hst.run pins s3 σ H3 (fun o H4 => o = some (-1) ∧ H4 = H3) I3 ⟨1, rfl, -1, rfl, rfl, rfl⟩) fun vs s4 ⟨o, H4, I4, ps, eo, e4⟩ => ?_
  subst eo e4
  have I5 : Inv X pins σ H4 { s4 with heap := s4.heap.push { cls := .type "slice", data := .fields #[vl, vu, vs] } } := I4.kept (t' := s4.toks) fun b ob q => Heap.get?_push_of_some _ q
  obtain ⟨its, r, ht, hz⟩ := I5.tuple hx
  have hlen := r.length
  show wpAny (model X.prog X.w) X.A (subscriptTail e (.Slice none none (some (.UnaryOp .USub (.Constant (.int 1) k p1) p2)) p3) (.ref a) (.ref s4.heap.objs.size)) (EP X pins σ Q) X.xe { s4 with heap := s4.heap.push { cls := .type "slice", data := .fields #[vl, vu, vs] } }
  refine tail_any (ops := [.ref a, .ref s4.heap.objs.size]) ht.typeIs (PyProof.Rows.slot_tuple_getitem.lookup) ?_ (by with_unfolding_all rfl)
  refine getItem_tupRev ht (by rw [List.size_toArray]; omega) (Heap.IsSliceOf.new _ vl vu vs) pl pu ps ?_
  refine ⟨.ref _, _, I5.laid (t' := s4.toks) (o := .tup xs.reverse) (fun b ob q => Heap.get?_push_of_some _ q) (Nat.le_refl _) ?_, rfl, q _ (I5.hok.fresh (Nat.le_refl _))⟩
  exact ⟨by rw [List.length_reverse]; exact hz, _, r.reverse, IsTup.new _ _⟩
theorem ed_revT {ds : List PyData} {k : Nat} (h3 : ds.length ≤ 3) (he : Ed X O M ρ e (.d (.tuple ds))) : Ed X O M ρ (.Subscript e (.Slice none none (some (.UnaryOp .USub (.Constant (.int 1) k p1) p2)) p3) pos) (.d (.tuple ds.reverse)) := fun B σ H S Q q =>
  wE_of (pe_revT pe_w) (he B σ H S _ fun v B1 H1 e1 S1 r1 => by
    cases r1 with
    | @tup _ xs _ h1 h2 =>
      refine ⟨_, _, rfl, sqt_mono S1.bh h1, by rw [h2.length]; exact h3, fun p hp => ?_⟩
      have hB : B1 p = none := by
        cases e : B1 p with
        | none => rfl
        | some u => rw [S1.bh _ _ e] at hp; cases hp
      have hb : Same B1 (upd B1 p (.tup xs.reverse)) := fun b u k => by rw [upd_ne (ne_of_none k hB)]; exact k
      exact q _ _ _ (e1.trans hb) (S1.newD hp) (.tup (SqT.of upd_same) (h2.reverse.mono hb)))
end
end K32

set_option maxRecDepth 100000
set_option maxHeartbeats 4000000
namespace K32
open PySem L2
/-! ## 15. Defs that are given own objects, read them, write them, hand new ones back -/
def OwnAll (K : PySem.W.Frag) (B H : Hp) (M : Owns) : Prop := ∀ p ∈ M, B p.1 = none ∧ ∃ o, H p.1 = some o ∧ OwnOk K B p.2 o
abbrev Post := Owns → Lo → Prop
def spO (K : PySem.W.Frag) (R : Owns → List Lo → Post → Prop) : Sp := fun vs H Q _ => ∃ B M ls P, Same B H ∧ OwnAll K B H M ∧ (M.map (·.1)).Nodup ∧ Los K B vs ls ∧ R M ls P ∧
  ∀ v l B' H' M', Nx (M.map (·.1)) B H B' H' → OwnAll K B' H' M' → (M'.map (·.1)).Nodup → (∀ p ∈ M', p.1 ∈ M.map (·.1) ∨ H p.1 = none) → LoOk K B' (some v) l → P M' l → Q v H'
/-- e gives something, own objects may be new or written -/
def Ex (X : Cx) (O : Og) (M : Owns) (ρ : List Lo) (e : Expr) (P : Post) : Prop :=
  ∀ B σ H, Sit X.K O B M ρ σ H → ∀ Q : VK, (∀ v l M' B' H', P M' l → Same B B' → Sit X.K O B' M' ρ σ H' → LoOk X.K B' (some v) l → Q v H') → wE X e σ H Q
/-- what the ends want of what is handed back -/
def RetO (K : PySem.W.Frag) (O : Og) (D : Ends) (P : Post) : Prop := ∀ B H M ρ σ v l, Sit K O B M ρ σ H → LoOk K B (some v) l → P M l → D.rt v H
section
variable {X : Cx} {O : Og} {M : Owns} {ρ : List Lo} {e a b c : Expr} {es : List Expr} {l la lb : Lo} {pos p1 p2 p3 : Pos} {D : Ends} {st : Stmt} {rest : List Stmt} {P : Post}
theorem Ed.ex (h : Ed X O M ρ e l) : Ex X O M ρ e (fun M' l' => M' = M ∧ l' = l) := fun B σ H S Q k => h B σ H S Q fun v B1 H1 e1 S1 r => k v l M B1 H1 ⟨rfl, rfl⟩ e1 S1 r
theorem Ev.ex {Φ : Lo → Prop} (h : Ev X O M ρ e Φ) : Ex X O M ρ e (fun M' l' => M' = M ∧ Φ l') := fun B σ H S Q k => h B σ H S Q fun v l B1 H1 f e1 S1 r => k v l M B1 H1 ⟨rfl, f⟩ e1 S1 r
theorem El.ex {ls : List Lo} (h : El X O M ρ e ls) : Ex X O M ρ e (fun M' l' => ∃ p, O.H p = none ∧ M' = (p, .lst ls) :: M ∧ l' = .v (.ref p)) := fun B σ H S Q k => h B σ H S Q fun p B1 H1 hO e1 S1 => k _ _ _ B1 H1 ⟨p, hO, rfl, rfl⟩ e1 S1 rfl
theorem Ex.imp {P' : Post} (h : Ex X O M ρ e P) (q : ∀ M' l, P M' l → P' M' l) : Ex X O M ρ e P' := fun B σ H S Q k => h B σ H S Q fun v l M' B1 H1 f e1 S1 r => k v l M' B1 H1 (q _ _ f) e1 S1 r
/-- .. that leaves the own objects as they stood, gives what is known as l -/
theorem Ex.ed (h : Ex X O M ρ e P) (q : ∀ M' l', P M' l' → M' = M ∧ l' = l) : Ed X O M ρ e l := fun B σ H S Q k => h B σ H S Q fun v l' M' B1 H1 f e1 S1 r => by
  obtain ⟨rfl, rfl⟩ := q _ _ f
  exact k v B1 H1 e1 S1 r
theorem Ex.ev {Φ : Lo → Prop} (h : Ex X O M ρ e P) (q : ∀ M' l', P M' l' → M' = M ∧ Φ l') : Ev X O M ρ e Φ := fun B σ H S Q k => h B σ H S Q fun v l' M' B1 H1 f e1 S1 r => by
  obtain ⟨rfl, g⟩ := q _ _ f
  exact k v l' B1 H1 g e1 S1 r
theorem Ea.ac {ls : List Lo} (h : Ea X O M ρ es ls) : Ac X O M ρ es (fun M' r => M' = M ∧ r = ls) := fun B σ H S Q k => h B σ H S Q fun vs B1 H1 e1 S1 r => k vs ls M B1 H1 ⟨rfl, rfl⟩ e1 S1 r
theorem ac_x {PA : Post} {P2 : Owns → Lo → Owns → List Lo → Prop} (h1 : Ex X O M ρ e PA) (h2 : ∀ M1 l, PA M1 l → Ac X O M1 ρ es (P2 M1 l)) (hs : starEach (e :: es) X.env = (false, eval e X.env) :: starEach es X.env := by rfl) :
    Ac X O M ρ (e :: es) (fun M' ls => ∃ M1 l r, PA M1 l ∧ ls = l :: r ∧ P2 M1 l M' r) :=
  fun B σ H S Q q => wA_of (pa_cons pe_w pa_w hs) (h1 B σ H S _ fun v l M1 B1 H1 f1 e1 S1 r1 => h2 M1 l f1 B1 σ H1 S1 _ fun vs ls M' B2 H2 hp e2 S2 r2 => q _ (l :: ls) M' B2 H2 ⟨M1, l, ls, f1, rfl, hp⟩ (e1.trans e2) S2 (.cons (r1.mono e2) r2))
theorem Sit.perm {K : PySem.W.Frag} {B H : Hp} {M' : Owns} {σ : L2.St} (S : Sit K O B M ρ σ H) (h : M.Perm M') : Sit K O B M' ρ σ H := ⟨S.nx, S.lb, fun p hp => S.own p (h.mem_iff.mpr hp), (h.map _).nodup_iff.mp S.nd, S.sl⟩
theorem Go.perm {M' : Owns} (h : Go X O M' ρ D rest) (w : M.Perm M') : Go X O M ρ D rest := fun B σ H S => h B σ H (S.perm w)
theorem nodup_app {α : Type} {l m : List α} (h1 : l.Nodup) (h2 : m.Nodup) (h3 : ∀ x ∈ l, x ∉ m) : (l ++ m).Nodup := List.nodup_append.mpr ⟨h1, h2, fun a ha b hb e => h3 a ha (e ▸ hb)⟩
/-- behind a call that had the own objects Mx -/
theorem Sit.after {K : PySem.W.Frag} {B B' H H' : Hp} {Mx Mr M' : Owns} {σ : L2.St} (S : Sit K O B (Mx ++ Mr) ρ σ H) (n : Nx (Mx.map (·.1)) B H B' H') (ho : OwnAll K B' H' M') (hn : (M'.map (·.1)).Nodup) (hf : ∀ p ∈ M', p.1 ∈ Mx.map (·.1) ∨ H p.1 = none) : Sit K O B' (M' ++ Mr) ρ σ H' := by
  have hd : ∀ p ∈ Mr, p.1 ∉ Mx.map (·.1) := fun p hp hx => by
    have h := S.nd
    rw [List.map_append] at h
    exact (List.nodup_append.mp h).2.2 _ hx _ (List.mem_map_of_mem hp) rfl
  refine S.stepX n (fun a ha => ?_) ?_ fun p hp => ?_
  · obtain ⟨q, hq, rfl⟩ := List.mem_map.mp ha
    obtain ⟨h1, _, h3⟩ := S.own q (List.mem_append_left _ hq)
    exact ⟨h1, h3⟩
  · rw [List.map_append]
    refine nodup_app hn ?_ fun x hx hr => ?_
    · have h := S.nd
      rw [List.map_append] at h
      exact (List.nodup_append.mp h).2.1
    · obtain ⟨p, hp, rfl⟩ := List.mem_map.mp hx
      obtain ⟨q, hq, e⟩ := List.mem_map.mp hr
      rcases hf p hp with h | h
      · rw [← e] at h
        exact hd q hq h
      · obtain ⟨_, ⟨o, h2, _⟩, _⟩ := S.own q (List.mem_append_right _ hq)
        rw [e, h] at h2
        cases h2
  · rcases List.mem_append.mp hp with h | h
    · right
      obtain ⟨h1, h2⟩ := ho p h
      refine ⟨h1, h2, ?_⟩
      rcases hf p h with g | g
      · obtain ⟨q, hq, e⟩ := List.mem_map.mp g
        obtain ⟨_, _, h3⟩ := S.own q (List.mem_append_left _ hq)
        rw [← e]
        exact h3
      · exact .inr (S.fresh g)
    · exact .inl ⟨List.mem_append_right _ h, hd p h⟩
theorem Sit.ownAll {K : PySem.W.Frag} {B H : Hp} {σ : L2.St} (S : Sit K O B M ρ σ H) : OwnAll K B H M := fun p hp => ⟨(S.own p hp).1, (S.own p hp).2.1⟩
/-- a call -/
theorem ex_call {x : Str} {k : Nat} {ps : List Str} {R : Owns → List Lo → Post → Prop} {PA : Owns → List Lo → Prop} (F : Def X.prog X.w X.K X.mg X.base CX0 x k ps (spO X.K R)) (hr : Room k X.A) (ha : Ac X O M ρ (e :: es) PA)
    (h : ∀ M1 ls, PA M1 ls → ∃ Mx Mr P1, M1.Perm (Mx ++ Mr) ∧ R Mx ls P1 ∧ ∀ M' l, P1 M' l → P (M' ++ Mr) l)
    (hg : Gl X x := by rfl) (hdb : (x == ("__debug__" : Str)) = false := by decide) (he : starEach (e :: es) X.env = (false, eval e X.env) :: starEach es X.env := by rfl)
    (hpl : (backTo pos (starEach es X.env)).any (·.1) = false := by rfl) : Ex X O M ρ (.Call (.Name x p1) (e :: es) [] pos) P := fun B σ H S Q q => by
  obtain ⟨f, fd, F, hm, hk, hb⟩ := F.ex
  refine wE_of (pe_call F hr hg hm hk hb .nil pass0 pa_w hdb he hpl) (ha B σ H S _ fun vs ls M1 B1 H1 hp e1 S1 r1 => ?_)
  show spO X.K R (vs ++ []) H1 Q E0
  rw [List.append_nil]
  obtain ⟨Mx, Mr, P1, hM, hR, hP⟩ := h M1 ls hp
  have S2 := S1.perm hM
  refine ⟨B1, Mx, ls, P1, S1.bh, fun p hp => S2.ownAll p (List.mem_append_left _ hp), ?_, r1, hR, fun v l B' H' M' n ho hn hf r hp1 => ?_⟩
  · have z := S2.nd
    rw [List.map_append] at z
    exact (List.nodup_append.mp z).1
  · exact q v l (M' ++ Mr) B' H' (hP M' l hp1) (e1.trans n.bb) (S2.after n ho hn hf) r
theorem go_asgX (i : Nat) {x : Str} (nd : X.N.Nodup) (he : Ex X O M ρ e P) (k : ∀ M' l, P M' l → Go X O M' (ρ.set i l) D rest) (hi : X.N[i]? = some x := by rfl) (hx : L2.Loc X.env.scope x := by first | exact Or.inl rfl | exact Or.inr rfl)
    (hs : swapsWith e (some (.Name x p1)) pos.line X.env = pure false := by rfl) (hf : X.fn x = true ∨ X.env.scope.names.lookup x = some .local := by first | exact .inl rfl | exact .inr rfl) : Go X O M ρ D (.Assign [.Name x p1] e pos :: rest) :=
  go_cons fun B σ H S => wS_of (ps_set nd hi hx pe_w hs hf) (he B σ H S _ fun v l M' B1 H1 f e1 S1 r1 => k M' l f B1 _ H1 (S1.slot i r1))
theorem go_dropX (he : Ex X O M ρ e P) (k : ∀ M' l, P M' l → Go X O M' ρ D rest) (hs : swapsWith e none pos.line X.env = pure false := by rfl) : Go X O M ρ D (.Expr e pos :: rest) :=
  go_cons fun B σ H S => wS_of (ps_expr pe_w hs) (he B σ H S _ fun v l M' B1 H1 f e1 S1 r1 => k M' l f B1 σ H1 S1)
theorem go_retX (he : Ex X O M ρ e P) (hq : RetO X.K O D P) : Go X O M ρ D (.Return (some e) pos :: rest) :=
  go_cons fun B σ H S => wS_of (ps_ret pe_w) (he B σ H S _ fun v l M' B1 H1 f e1 S1 r1 => hq B1 H1 M' ρ σ v l S1 r1 f)
theorem RetO.imp {K : PySem.W.Frag} {P' : Post} (h : RetO K O D P) (q : ∀ M l, P' M l → P M l) : RetO K O D P' := fun B H M ρ σ v l S r f => h B H M ρ σ v l S r (q M l f)
/-- the body's end -/
theorem go_nilO (hD : D.nx = fun _ H' => D.rt .non H') (hq : RetO X.K O D P) (h : P M (.d .none)) : Go X O M ρ D [] := go_nil fun B σ H S => by
  rw [hD]
  exact hq B H M ρ σ .non (.d .none) S .non h
/-- return without a value -/
theorem go_ret0 (hq : RetO X.K O D P) (h : P M (.d .none)) : Go X O M ρ D (.Return none pos :: rest) :=
  go_cons fun B σ H S => wS_of ps_retN (hq B H M ρ σ .non (.d .none) S .non h)
/-- l.append(e), e may make or write own objects -/
theorem go_appendX {p : Addr} {ls0 : List Lo} {o : Expr} {ap cp : Pos} (ho : Ed X O M ρ o (.v (.ref p))) (hj : (p, Own.lst ls0) ∈ M) (he : Ex X O M ρ e P)
    (k : ∀ M' l, P M' l → ∃ (j : Nat) (ls : List Lo), M'[j]? = some (p, .lst ls) ∧ ls.length < 100000 ∧ Go X O (M'.set j (p, .lst (ls ++ [l]))) ρ D rest)
    (hbase : attributeBase o "append" X.env (eval o X.env) = eval o X.env := by rfl)
    (hfew : ((backTo cp (starEach [e] X.env)).all (fun x => !x.1) && (backToKw cp (keywordEach [] X.env)).all (fun x => x.1.isSome)
      && decide ([e].length + ([] : List Keyword).length + (if ([] : List Keyword).isEmpty then 0 else 1) < 30)) = true := by rfl)
    (hline : (ap.endLine == cp.line) = true := by rfl) (hs : starEach [e] X.env = (false, eval e X.env) :: starEach [] X.env := by rfl)
    (hsw : swapsWith (.Call (.Attribute o "append" ap) [e] [] cp) none pos.line X.env = pure false := by rfl) : Go X O M ρ D (.Expr (.Call (.Attribute o "append" ap) [e] [] cp) pos :: rest) :=
  go_cons fun B σ H S => wS_of (ps_expr (pe_bm PySem.F.plainAttrs_list PySem.F.slot_list_append PySem.F.type_list_append mt_append pe_w (pa_cons pe_w pa_nil hs) hbase hfew hline hs) hsw)
    (ho B σ H S _ fun v B1 H1 e1 S1 r1 => by
      have ev : v = .ref p := r1
      subst ev
      obtain ⟨_, ⟨_, h2, xs, rfl, _⟩, _⟩ := S1.own _ hj
      refine ⟨.inl ⟨rfl, _, SqL.of h2⟩, he B1 σ H1 S1 _ fun y l M' B2 H2 f e2 S2 r2 => ?_⟩
      obtain ⟨j, ls, hm, hz, kk⟩ := k M' l f
      obtain ⟨_, ⟨_, h2, xs, rfl, h3⟩, _⟩ := S2.own _ (List.mem_of_getElem? hm)
      refine ⟨p, xs, y, rfl, rfl, h2, Nat.lt_of_lt_of_le (by rw [Paired.len h3]; exact hz) (by decide), ?_⟩
      exact kk B2 σ _ (S2.write j hm ⟨_, rfl, Paired.app h3 (.cons r2 .nil)⟩))
/-! ### instances -/
theorem fld_at {K : PySem.W.Frag} {B : Hp} {f : Str} {l : Lo} : ∀ {vs : List (Str × V)} {fs : List (Str × Lo)}, Paired (fun (p : Str × V) (q : Str × Lo) => p.1 = q.1 ∧ LoOk K B (some p.2) q.2) vs fs → fs.lookup f = some l → ∃ v, vs.lookup f = some v ∧ LoOk K B (some v) l
  | _, _, .nil, h => by simp at h
  | (g, v) :: _, (g', m) :: _, .cons r t, h => by
    obtain ⟨e, r⟩ := r
    have e : g = g' := e
    subst e
    rw [List.lookup_cons] at h ⊢
    cases q : (f == g) with
    | true =>
      rw [q] at h
      cases h
      exact ⟨v, rfl, r⟩
    | false =>
      rw [q] at h
      exact fld_at t h
theorem ed_fld {p C dx : Addr} {fs : List (Str × Lo)} {f : Str} (ha : Ed X O M ρ a (.v (.ref p))) (hm : (p, Own.ins C dx fs) ∈ M) (hl : fs.lookup f = some l) (c : Cls X.K C) (n : NoAttr X.K C f) (hb : attributeBase a f X.env (eval a X.env) = eval a X.env := by rfl) : Ed X O M ρ (.Attribute a f pos) l :=
  fun B σ H S Q q => wE_of (pe_fld pe_w hb) (ha B σ H S _ fun v B1 H1 e1 S1 r1 => by
    have ev : v = .ref p := r1
    subst ev
    obtain ⟨_, ⟨_, h2, vs, rfl, h3⟩, _⟩ := S1.own _ hm
    obtain ⟨u, g1, g2⟩ := fld_at h3 hl
    exact ⟨p, C, dx, vs, u, rfl, h2, c, n, g1, q u B1 H1 e1 S1 g2⟩)
theorem putF_new {K : PySem.W.Frag} {B : Hp} {f : Str} {v : V} {l : Lo} (r : LoOk K B (some v) l) : ∀ {vs : List (Str × V)} {fs : List (Str × Lo)}, Paired (fun (p : Str × V) (q : Str × Lo) => p.1 = q.1 ∧ LoOk K B (some p.2) q.2) vs fs → (∀ q ∈ fs, q.1 ≠ f) →
    Paired (fun (p : Str × V) (q : Str × Lo) => p.1 = q.1 ∧ LoOk K B (some p.2) q.2) (putF f v vs) (fs ++ [(f, l)])
  | _, _, .nil, _ => .cons ⟨rfl, r⟩ .nil
  | (g, u) :: _, (g', m) :: _, .cons q t, h => by
    have e : g = g' := q.1
    have h1 : g ≠ f := fun z => h (g', m) List.mem_cons_self (e ▸ z)
    show Paired _ (if g = f then _ else _) _
    rw [if_neg h1]
    exact .cons q (putF_new r t fun x hx => h x (List.mem_cons_of_mem _ hx))
/-- o.f = e, the first such -/
theorem go_fld (j : Nat) {o : Expr} {p C dx : Addr} {fs : List (Str × Lo)} {f : Str} (he : Ed X O M ρ e l) (ho : Ed X O M ρ o (.v (.ref p))) (hj : M[j]? = some (p, .ins C dx fs)) (hf : ∀ q ∈ fs, q.1 ≠ f) (c : Cls X.K C) (n : NoAttr X.K C f) (hz : fs.length < 1000)
    (k : Go X O (M.set j (p, .ins C dx (fs ++ [(f, l)]))) ρ D rest) (hs : swapsWith e (some (.Attribute o f p2)) pos.line X.env = pure false := by rfl) : Go X O M ρ D (.Assign [.Attribute o f p2] e pos :: rest) :=
  go_cons fun B σ H S => wS_of (ps_fld pe_w pe_w hs) (he B σ H S _ fun v B1 H1 e1 S1 r1 => ho B1 σ H1 S1 _ fun y B2 H2 e2 S2 r2 => by
    have ev : y = .ref p := r2
    subst ev
    obtain ⟨_, ⟨_, h2, vs, rfl, h3⟩, _⟩ := S2.own _ (List.mem_of_getElem? hj)
    refine ⟨p, C, dx, vs, rfl, h2, c, n, by rw [Paired.len h3]; exact hz, ?_⟩
    exact k B2 σ _ (S2.write j hj ⟨_, rfl, putF_new (r1.mono e2) h3 hf⟩))
theorem go_fldL (j : Nat) {o : Expr} {p C dx : Addr} {fs : List (Str × Lo)} {f : Str} {ls : List Lo} (he : El X O M ρ e ls) (ho : ∀ M', Ed X O M' ρ o (.v (.ref p))) (hj : M[j]? = some (p, .ins C dx fs)) (hf : ∀ q ∈ fs, q.1 ≠ f) (c : Cls X.K C) (n : NoAttr X.K C f) (hz : fs.length < 1000)
    (k : ∀ q, O.H q = none → Go X O ((q, .lst ls) :: M.set j (p, .ins C dx (fs ++ [(f, .v (.ref q))]))) ρ D rest) (hs : swapsWith e (some (.Attribute o f p2)) pos.line X.env = pure false := by rfl) : Go X O M ρ D (.Assign [.Attribute o f p2] e pos :: rest) :=
  go_cons fun B σ H S => wS_of (ps_fld pe_w pe_w hs) (he B σ H S _ fun q B1 H1 hO e1 S1 => ho _ B1 σ H1 S1 _ fun y B2 H2 e2 S2 r2 => by
    have ev : y = .ref p := r2
    subst ev
    have hj2 : ((q, Own.lst ls) :: M)[j + 1]? = some (p, .ins C dx fs) := hj
    obtain ⟨_, ⟨_, h2, vs, rfl, h3⟩, _⟩ := S2.own _ (List.mem_of_getElem? hj2)
    refine ⟨p, C, dx, vs, rfl, h2, c, n, by rw [Paired.len h3]; exact hz, ?_⟩
    exact k q hO B2 σ _ (S2.write (j + 1) hj2 ⟨_, rfl, putF_new (l := .v (.ref q)) rfl h3 hf⟩))
/-- a new instance -/
theorem ex_make {x : Str} {C f : Addr} {fd : FuncData} {k : Nat} {ps : List Str} {R : Owns → List Lo → Post → Prop} {ls : List Lo} (Mk' : Mk X.K C f) (F : FnOk X.prog X.w X.K X.mg X.base CX0 k f fd ps (spO X.K R)) (hr : Room (k + 1) X.A) (hm : X.mg x = some (.ref C)) (hb : Binds X.K fd ps [])
    (ha : Ea X O M ρ (e :: es) ls) (h : ∀ p dx, ∃ P1, R [(p, .ins C dx [])] (.v (.ref p) :: ls) P1 ∧ ∀ M' l, P1 M' l → l = .d .none ∧ P (M' ++ M) (.v (.ref p)))
    (hg : Gl X x := by rfl) (hdb : (x == ("__debug__" : Str)) = false := by decide) (he : starEach (e :: es) X.env = (false, eval e X.env) :: starEach es X.env := by rfl)
    (hpl : (backTo pos (starEach es X.env)).any (·.1) = false := by rfl) : Ex X O M ρ (.Call (.Name x p1) (e :: es) [] pos) P := fun B σ H S Q q => by
  refine wE_of (pe_make Mk' F hr hg hm hb .nil pass0 pa_w hdb he hpl) (ha B σ H S _ fun vs B1 H1 e1 S1 r1 p dx hp hdx hne => ?_)
  show spO X.K R (.ref p :: (vs ++ [])) _ _ E0
  rw [List.append_nil]
  obtain ⟨P1, hR, hP⟩ := h p dx
  have S2 := S1.new (a := dx) (o := .own p) (w := .is (.own p)) hdx rfl
  have hp2 : upd H1 dx (.own p) p = none := by rw [upd_ne (fun z => hne z.symm)]; exact hp
  have S3 := S2.new (a := p) (o := .ins C dx []) (w := .ins C dx []) hp2 ⟨[], rfl, .nil⟩
  have S4 : Sit X.K O B1 ([(p, Own.ins C dx [])] ++ M) ρ σ (upd (upd H1 dx (.own p)) p (.ins C dx [])) := ⟨S3.nx, S3.lb, fun z hz => S3.own z (by
    rcases List.mem_append.mp hz with h | h
    · rw [List.mem_singleton.mp h]; exact List.mem_cons_self
    · exact List.mem_cons_of_mem _ (List.mem_cons_of_mem _ h)), by
    have z := S3.nd
    exact z.sublist (by exact List.Sublist.cons₂ _ (List.sublist_cons_self _ _)), S3.sl⟩
  refine ⟨B1, [(p, .ins C dx [])], .v (.ref p) :: ls, P1, S4.bh, fun z hz => S4.ownAll z (List.mem_append_left _ hz), by simp, .cons rfl r1, hR, fun v l B' H' M' n ho hn hf r hp1 => ?_⟩
  obtain ⟨rfl, hP1⟩ := hP M' l hp1
  refine ⟨by cases v <;> first | rfl | (cases r), q _ _ (M' ++ M) B' H' hP1 (e1.trans n.bb) (S4.after n ho hn hf) rfl⟩
/-! ### for, the own objects told by a predicate -/
def lpX (X : Cx) (O : Og) (D : Ends) (rest : List Stmt) (I : Owns → List Lo → Prop) : Ends :=
  { D with nx := fun σ H => ∃ B M ρ, I M ρ ∧ Sit X.K O B M ρ σ H, ct := fun σ H => ∃ B M ρ, I M ρ ∧ Sit X.K O B M ρ σ H, bk := wSs X rest D }
theorem go_turnX {I : Owns → List Lo → Prop} (h : I M ρ) : Go X O M ρ (lpX X O D rest I) [] := go_nil fun B σ H S => ⟨B, M, ρ, h, S⟩
theorem go_forX {tg iter : Expr} {body : List Stmt} {n : Nat} {item : Nat → PyData} {g : TG} (I : Nat → Owns → List Lo → Prop) (hI : Iter X O M ρ tg iter n item) (hg : PG X tg g) (h0 : I 0 M ρ)
    (turn : ∀ L, ∀ i, i < n → ∀ Mi ρi, I i Mi ρi → ∃ ρ1, Tg X.K (O.low L) Mi g (item i) ρi ρ1 ∧ Go X (O.low L) Mi ρ1 (lpX X (O.low L) D rest (I (i + 1))) body)
    (after : ∀ Mi ρi, I n Mi ρi → Go X O Mi ρi D rest) (hp : PassesOwn (model X.prog X.w) X.A X.env X.xe := by exact PassesOwn.never) (hc : X.calm = true := by rfl) (hs : ∀ x, foldedSetIterable iter X.env x = pure x := by intro _; rfl) : Go X O M ρ D (.For tg iter body [] pos :: rest) :=
  go_cons fun B σ H S => by
    obtain ⟨wi, hwi, hW⟩ := hI
    refine wS_of (ps_for hp hc hwi hg pss_w hs) (hW B σ H S _ fun J B' H' G Y e1 S1 W hG hY => ?_)
    have hL : Same O.L B' := S1.lb
    refine for_it W (fun i σ H => ∃ B M ρ, I i M ρ ∧ Sit X.K (O.low B') B M ρ σ H) ⟨B', M, ρ, h0, S1.relow (Same.refl _)⟩ (fun i σ H _ ⟨B, _, _, _, S⟩ => hG B H S.lb S.bh) (fun i x σ1 H1 H2 hi ⟨B1, Mi, ρi, hi', S2⟩ hy => ?_) fun σ1 H1 ⟨B1, Mi, ρi, hi', S2⟩ => after Mi ρi hi' B1 σ1 H1 (S2.unlow hL)
    obtain ⟨B2, n2, r2⟩ := hY i H1 x H2 hi hy B1 S2.lb S2.bh
    obtain ⟨ρ1, ht, hb⟩ := turn B' i hi Mi ρi hi'
    refine ht B2 σ1 H2 x (S2.step n2) r2 _ fun σ2 B3 H3 e3 S3 => ?_
    exact hb B3 σ2 H3 S3
end
/-- the slots at the entry -/
def at1 (N : List Str) (ls : List Lo) : List Lo := ls ++ List.replicate (N.length - ls.length) .no
section
variable {P : Program} {w : World} {K : PySem.W.Frag} {mg : Str → Option Value} {base : Heap} {x qn : Str} {st : Stmt} {N ps : List Str} {f : Addr} {k : Nat} {fd : FuncData}
abbrev cxQ (P : Program) (w : World) (K : PySem.W.Frag) (mg : Str → Option Value) (base : Heap) (x : Str) (st : Stmt) (N : List Str) (f : Addr) (cdv : Value) (A : Around) (outer : List Env) (s : Shared) (H : Hp) (E : XK) : Cx :=
  (cxOf CX0 P w K mg base N x (defScope st) f cdv A outer s H E).nox
theorem fn_O {R : Owns → List Lo → Post → Prop} (F : FunD K x qn (defArgs st) (defBody st) (defScope st) [] [] f fd) (S : FnScope N ps (defScope st)) (hlen : ∀ M ls Po, R M ls Po → ls.length = ps.length)
    (body : Body P w K mg base qn st N f k fun X => ∀ M ls Po, R M ls Po → ∀ (O : Og) (D : Ends), D.nx = (fun _ H' => D.rt .non H') → RetO K O D Po → Go X O M (at1 N ls) D (defBody st)) :
    FnOk P w K mg base CX0 (k + 1) f fd ps (spO K R) := by
  refine F.ok S (fun vs H Q E h => ?_) fun cdv A outer s H vs Q E hr h => ?_
  · obtain ⟨B, M, ls, Po, _, _, _, h2, h3, _⟩ := h
    rw [Paired.len h2, hlen _ _ _ h3]
  · obtain ⟨B, M, ls, Po, h1, ho, hn, h2, h3, h4⟩ := h
    refine ⟨wSs (cxQ P w K mg base qn st N f cdv A outer s H E) (defBody st), PSs.nox pss_w, ?_⟩
    refine body cdv A outer s H E hr M ls Po h3 ⟨B, H, M.map (·.1), B⟩ _ rfl (fun B' H' M' ρ σ v l S' r hp => ?_) B _ H ⟨Nx.refl h1, Same.refl _, fun p hp => ?_, hn, sls_start h2⟩
    · exact h4 v l B' H' M' S'.nx S'.ownAll S'.nd (fun p hp => (S'.own p hp).2.2) r hp
    · obtain ⟨g1, g2⟩ := ho p hp
      exact ⟨g1, g2, .inl (List.mem_map_of_mem hp)⟩
theorem def_O {R : Owns → List Lo → Post → Prop} (F : ∃ fd, FunD K x x (defArgs st) (defBody st) (defScope st) [] [] f fd) (hm : mg x = some (.ref f)) (S : FnScope N ps (defScope st))
    (hb : ∀ (kV doc pm : Value) (an : Option Addr) (cdv ct : Value) (us : List Value), us.length = ps.length → bindArgs (PySem.W.fnOf x x (defArgs st) (defBody st) (defScope st) .none kV doc pm an cdv ct) ⟨us, []⟩ = pure (ps.zip us))
    (hlen : ∀ M ls Po, R M ls Po → ls.length = ps.length)
    (body : Body P w K mg base x st N f k fun X => ∀ M ls Po, R M ls Po → ∀ (O : Og) (D : Ends), D.nx = (fun _ H' => D.rt .non H') → RetO K O D Po → Go X O M (at1 N ls) D (defBody st)) :
    Def P w K mg base CX0 x (k + 1) ps (spO K R) := by
  obtain ⟨fd, F⟩ := F
  exact ⟨f, fd, fn_O F S hlen body, hm, F.kp, F.bindsN hb⟩
end
end K32

/-! # == of kinds, nodes, trees as data -/
namespace K32
open PySem
theorem int_beq (i j : Nat) : ((i : Int) == (j : Int)) = decide (i = j) := by
  by_cases h : i = j
  · subst h; simp
  · have : ¬ (i : Int) = j := by omega
    simp [h, this]
theorem eqv_int (i j : Nat) : PyData.eqv (.int i) (.int j) = decide (i = j) := by simp only [PyData.eqv]; exact int_beq i j
theorem eqv_str (x y : Str) : PyData.eqv (.str x) (.str y) = decide (x = y) := by
  simp only [PyData.eqv]
  rw [Bool.beq_eq_decide_eq]
theorem eqv_tup_ne {x y : Str} {r s : List PyData} (h : x ≠ y) : PyData.eqv (.tuple (.str x :: r)) (.tuple (.str y :: s)) = false := by
  simp only [PyData.eqv, PyData.eqvAll]
  have : (x == y) = false := by simpa using h
  rw [this]
  rfl
theorem eqv_tup_eq {x : Str} {r s : List PyData} : PyData.eqv (.tuple (.str x :: r)) (.tuple (.str x :: s)) = PyData.eqvAll r s := by
  simp only [PyData.eqv, PyData.eqvAll]
  have : (x == x) = true := by simp
  rw [this]
  rfl
theorem eqvA_nil : PyData.eqvAll [] [] = true := by simp only [PyData.eqvAll]
theorem eqvA_cons {x y : PyData} {r s : List PyData} : PyData.eqvAll (x :: r) (y :: s) = (PyData.eqv x y && PyData.eqvAll r s) := by simp only [PyData.eqvAll]
theorem lay_tup {x : Str} {r : List PyData} (h : PyData.strOk x = true) (hr : PyData.canLayAll0 r = true) : (PyData.tuple (.str x :: r)).canLay0 = true := by
  simp only [PyData.canLay0, PyData.canLayAll0, h, hr]; rfl
theorem layA_nil : PyData.canLayAll0 [] = true := by simp only [PyData.canLayAll0]
theorem layA_cons {x : PyData} {r : List PyData} (h : x.canLay0 = true) (hr : PyData.canLayAll0 r = true) : PyData.canLayAll0 (x :: r) = true := by simp only [PyData.canLayAll0, h, hr]; rfl
theorem lay_int (i : Int) : (PyData.int i).canLay0 = true := by simp only [PyData.canLay0]
theorem Kd.lay : ∀ k : Kd, k.enc.canLay0 = true
  | .let_ i => lay_tup (by decide +kernel) (layA_cons (lay_int _) layA_nil)
  | .cnt => lay_tup (by decide +kernel) layA_nil
  | .pr a b => lay_tup (by decide +kernel) (layA_cons a.lay (layA_cons b.lay layA_nil))
  | .sm a b => lay_tup (by decide +kernel) (layA_cons a.lay (layA_cons b.lay layA_nil))
  | .fn a b => lay_tup (by decide +kernel) (layA_cons a.lay (layA_cons b.lay layA_nil))
theorem Kd.dep : ∀ k : Kd, k.enc.depth ≤ k.deep + 1
  | .let_ i => by simp [Kd.enc, Kd.deep, PyData.depth, PyData.depthAll]
  | .cnt => by simp [Kd.enc, Kd.deep, PyData.depth, PyData.depthAll]
  | .pr a b => by have := a.dep; have := b.dep; simp only [Kd.enc, Kd.deep, PyData.depth, PyData.depthAll]; omega
  | .sm a b => by have := a.dep; have := b.dep; simp only [Kd.enc, Kd.deep, PyData.depth, PyData.depthAll]; omega
  | .fn a b => by have := a.dep; have := b.dep; simp only [Kd.enc, Kd.deep, PyData.depth, PyData.depthAll]; omega
theorem Kd.eqv (a b : Kd) : PyData.eqv a.enc b.enc = decide (a = b) := by
  induction a generalizing b with
  | let_ i => cases b <;> simp only [Kd.enc] <;> first | (rw [eqv_tup_ne (by decide)]; simp) | (rw [eqv_tup_eq, eqvA_cons, eqvA_nil, eqv_int]; simp)
  | cnt => cases b <;> simp only [Kd.enc] <;> first | (rw [eqv_tup_ne (by decide)]; simp) | (rw [eqv_tup_eq, eqvA_nil]; simp)
  | pr x y ihx ihy => cases b <;> simp only [Kd.enc] <;> first | (rw [eqv_tup_ne (by decide)]; simp) | (rw [eqv_tup_eq, eqvA_cons, eqvA_cons, eqvA_nil, ihx, ihy]; simp)
  | sm x y ihx ihy => cases b <;> simp only [Kd.enc] <;> first | (rw [eqv_tup_ne (by decide)]; simp) | (rw [eqv_tup_eq, eqvA_cons, eqvA_cons, eqvA_nil, ihx, ihy]; simp)
  | fn x y ihx ihy => cases b <;> simp only [Kd.enc] <;> first | (rw [eqv_tup_ne (by decide)]; simp) | (rw [eqv_tup_eq, eqvA_cons, eqvA_cons, eqvA_nil, ihx, ihy]; simp)
theorem Nd.lay (n : Nd) : n.enc.canLay0 = true := by
  cases n <;> first | exact lay_tup (by decide +kernel) layA_nil | exact lay_tup (by decide +kernel) (layA_cons (lay_int _) layA_nil) | exact lay_tup (by decide +kernel) (layA_cons (Kd.lay _) layA_nil)
theorem Nd.eqv (a b : Nd) : PyData.eqv a.enc b.enc = decide (a = b) := by
  cases a <;> cases b <;> simp only [Nd.enc] <;> first | (rw [eqv_tup_ne (by decide)]; simp) | (rw [eqv_tup_eq, eqvA_nil]; simp) | (rw [eqv_tup_eq, eqvA_cons, eqvA_nil, eqv_int]; simp) | (rw [eqv_tup_eq, eqvA_cons, eqvA_nil, Kd.eqv]; simp)
theorem lay_all {α : Type} {f : α → PyData} (h : ∀ x, (f x).canLay0 = true) : ∀ l : List α, PyData.canLayAll0 (l.map f) = true
  | [] => layA_nil
  | x :: l => layA_cons (h x) (lay_all h l)
theorem eqv_all {α : Type} [DecidableEq α] {f : α → PyData} (h : ∀ x y, PyData.eqv (f x) (f y) = decide (x = y)) : ∀ l m : List α, PyData.eqvAll (l.map f) (m.map f) = decide (l = m)
  | [], [] => by simp [PyData.eqvAll]
  | [], _ :: _ => by simp [PyData.eqvAll]
  | _ :: _, [] => by simp [PyData.eqvAll]
  | x :: l, y :: m => by simp only [List.map_cons]; rw [eqvA_cons, h, eqv_all h l m]; simp
theorem dep_all {α : Type} {f : α → PyData} {n : Nat} : ∀ l : List α, (∀ x ∈ l, (f x).depth ≤ n) → PyData.depthAll (l.map f) ≤ n
  | [], _ => by simp [PyData.depthAll]
  | x :: l, h => by
    have h1 := h x List.mem_cons_self
    have h2 := dep_all l fun y hy => h y (List.mem_cons_of_mem _ hy)
    simp only [List.map_cons, PyData.depthAll]
    omega
theorem lay_two {x y : PyData} (h : x.canLay0 = true) (h2 : y.canLay0 = true) : (PyData.tuple [x, y]).canLay0 = true := by
  simp only [PyData.canLay0, PyData.canLayAll0, h, h2]; rfl
theorem lay_list {r : List PyData} (h : PyData.canLayAll0 r = true) : (PyData.list r).canLay0 = true := by
  simp only [PyData.canLay0, h]
theorem Tr.lay : ∀ t : Tr, t.enc.canLay0 = true
  | .name i => lay_two (Nd.lay _) (lay_list layA_nil)
  | .told n => lay_two (Nd.lay _) (lay_list layA_nil)
  | .fn A b => lay_two (Nd.lay _) (lay_list (layA_cons b.lay layA_nil))
  | .call f a => lay_two (Nd.lay _) (lay_list (layA_cons f.lay (layA_cons a.lay layA_nil)))
  | .both f a => lay_two (Nd.lay _) (lay_list (layA_cons f.lay (layA_cons a.lay layA_nil)))
  | .first p => lay_two (Nd.lay _) (lay_list (layA_cons p.lay layA_nil))
  | .second p => lay_two (Nd.lay _) (lay_list (layA_cons p.lay layA_nil))
  | .left B p => lay_two (Nd.lay _) (lay_list (layA_cons p.lay layA_nil))
  | .right B p => lay_two (Nd.lay _) (lay_list (layA_cons p.lay layA_nil))
  | .which s l r => lay_two (Nd.lay _) (lay_list (layA_cons s.lay (layA_cons l.lay (layA_cons r.lay layA_nil))))
  | .next p => lay_two (Nd.lay _) (lay_list (layA_cons p.lay layA_nil))
  | .turns A s l r => lay_two (Nd.lay _) (lay_list (layA_cons s.lay (layA_cons l.lay (layA_cons r.lay layA_nil))))
  | .lt f a => lay_two (Nd.lay _) (lay_list (layA_cons f.lay (layA_cons a.lay layA_nil)))
end K32

set_option maxRecDepth 100000
set_option maxHeartbeats 4000000
namespace K32
open PySem L2
/-! ## 16. A dict display of texts, read by a text; == of an own list -/
abbrev KVs := List (Str × V)
def keysK (kvs : KVs) : List (Key × V) := kvs.map fun q => (.inr q.1, q.2)
def Ap (X : Cx) (O : Og) (M : Owns) (ρ : List Lo) (trs : List (TE × TE)) (P : Owns → KVs → Prop) : Prop :=
  ∀ B σ H, Sit X.K O B M ρ σ H → ∀ Q : List (V × V) → Hp → Prop, (∀ kvs M' B' H', P M' kvs → Same B B' → Sit X.K O B' M' ρ σ H' → Q (kvs.map fun q => (.str q.1, q.2)) H') → tPairs trs σ H Q
section
variable {X : Cx} {O : Og} {M : Owns} {ρ : List Lo} {e a b c : Expr} {es : List Expr} {l la lb : Lo} {pos p1 p2 p3 : Pos} {D : Ends} {st : Stmt} {rest : List Stmt} {P : Post} {j : Nat}
theorem ap_nil : Ap X O M ρ [] (fun M' kvs => M' = M ∧ kvs = []) := fun B σ H S Q q => q [] M B H ⟨rfl, rfl⟩ (Same.refl _) S
theorem ap_cons {x : Str} {trs : List (TE × TE)} {PA : Owns → V → Prop} {P2 : Owns → V → Owns → KVs → Prop} (h1 : Ex X O M ρ e (fun M' l => ∃ v, l = .v v ∧ PA M' v)) (h2 : ∀ M1 v, PA M1 v → Ap X O M1 ρ trs (P2 M1 v)) :
    Ap X O M ρ ((tC (.str x), wE X e) :: trs) (fun M' kvs => ∃ M1 v r, PA M1 v ∧ kvs = (x, v) :: r ∧ P2 M1 v M' r) := fun B σ H S Q q => h1 B σ H S _ fun v l M1 B1 H1 f e1 S1 r1 => by
  obtain ⟨u, rfl, f⟩ := f
  have ev : v = u := r1
  subst ev
  exact h2 M1 v f B1 σ H1 S1 _ fun kvs M' B2 H2 f2 e2 S2 => q ((x, v) :: kvs) M' B2 H2 ⟨M1, v, kvs, f, rfl, f2⟩ (e1.trans e2) S2
theorem ex_str {x : Str} (h : Ed X O M ρ e (.d (.str x))) : Ex X O M ρ e (fun M' l => ∃ v, l = .v v ∧ M' = M ∧ v = .str x) := fun B σ H S Q q => h B σ H S _ fun v B1 H1 e1 S1 r => by
  cases r
  exact q _ _ M B1 H1 ⟨_, rfl, rfl, rfl⟩ e1 S1 rfl
theorem ex_lstV {ls : List Lo} (h : El X O M ρ e ls) : Ex X O M ρ e (fun M' l => ∃ v, l = .v v ∧ ∃ p, O.H p = none ∧ M' = (p, .lst ls) :: M ∧ v = .ref p) := fun B σ H S Q q => h B σ H S _ fun p B1 H1 hO e1 S1 =>
  q _ _ _ B1 H1 ⟨_, rfl, p, hO, rfl, rfl⟩ e1 S1 rfl
/-- {k: v, ..}, the keys texts -/
theorem ex_disp {keys : List (Option Expr)} {values : List Expr} {trs : List (TE × TE)} {PA : Addr → Owns → KVs → Prop} (hp : PPs X pos keys values trs) (ha : ∀ p, O.H p = none → Ap X O ((p, .is (.dK [])) :: M) ρ trs (PA p))
    (h : ∀ p M' kvs, PA p M' kvs → ∃ j, M'[j]? = some (p, .is (.dK [])) ∧ kvs.length ≤ 15 ∧ P (M'.set j (p, .is (.dK (mergeK [] (keysK kvs))))) (.v (.ref p)))
    (hall : keys.all (·.isSome) = true := by rfl) (hl : keys.length = values.length := by rfl) (h0 : keys ≠ [] := by intro q; cases q) (h15 : keys.length ≤ 15 := by decide) : Ex X O M ρ (.Dict keys values pos) P := fun B σ H S Q q =>
  wE_of (pe_disp hp hall hl h0 h15) fun p hp0 => ha p (S.fresh hp0) B σ _ (S.new hp0 (w := .is (.dK [])) rfl) _ fun kvs M' B1 H1 f e1 S1 => by
    obtain ⟨j, hj, hz, hP⟩ := h p M' kvs f
    obtain ⟨_, ⟨o, h2, h3⟩, _⟩ := S1.own _ (List.mem_of_getElem? hj)
    have ho : o = .dK [] := h3
    subst ho
    refine ⟨h2, keysK kvs, by unfold keysK; rw [List.map_map]; rfl, by unfold keysK; rw [List.length_map]; exact hz, ?_⟩
    exact q _ _ _ B1 _ hP e1 (S1.write j hj (w' := .is _) rfl) rfl
theorem d_at {K : PySem.W.Frag} {B H : Hp} {σ : L2.St} {p : Addr} {kvs : List (Key × V)} (S : Sit K O B M ρ σ H) (hm : (p, Own.is (.dK kvs)) ∈ M) : H p = some (.dK kvs) := by
  obtain ⟨_, ⟨o, h2, h3⟩, _⟩ := S.own _ hm
  rw [h2, show o = .dK kvs from h3]
theorem ed_ixD {p : Addr} {x : Str} {v : V} {kvs : List (Key × V)} (hu : Room64 X) (ha : Ed X O M ρ a (.v (.ref p))) (hb : Ed X O M ρ b (.d (.str x))) (hm : (p, Own.is (.dK kvs)) ∈ M) (hv : valV kvs (.inr x) = some v) (hs : NoSl b := by exact fun _ _ => rfl) : Ed X O M ρ (.Subscript a b pos) (.v v) :=
  fun B σ H S Q q => wE_of (pe_dget (by have := hu; unfold Room64 at this; omega) pe_w pe_w hs) (ha B σ H S _ fun x1 B1 H1 e1 S1 r1 => hb B1 σ H1 S1 _ fun y B2 H2 e2 S2 r2 => by
    have ev : x1 = .ref p := r1
    subst ev
    cases r2
    refine ⟨p, v, rfl, ?_, q v B2 H2 (e1.trans e2) S2 rfl⟩
    have g := DGet.k (k := .inr x) (d_at S2 hm)
    rw [hv] at g
    exact g)
theorem et_inD {p : Addr} {x : Str} {kvs : List (Key × V)} (hu : Room64 X) (ha : Ed X O M ρ a (.d (.str x))) (hb : Ed X O M ρ b (.v (.ref p))) (hm : (p, Own.is (.dK kvs)) ∈ M) (hbm : behindInMarks .In b = false := by rfl) : Et X O M ρ (.Compare a [.In] [b] pos) (valV kvs (.inr x)).isSome :=
  fun B σ H S Q q => wT_of (pt_cmp (pc_din (by have := hu; unfold Room64 at this; omega) pe_w pe_w) hbm) (ha B σ H S _ fun x1 B1 H1 e1 S1 r1 => hb B1 σ H1 S1 _ fun y B2 H2 e2 S2 r2 => by
    have ev : y = .ref p := r2
    subst ev
    cases r1
    exact ⟨p, _, rfl, DGet.k (k := .inr x) (d_at S2 hm), _, rfl, q B2 H2 (e1.trans e2) S2⟩)
theorem et_ninD {p : Addr} {x : Str} {kvs : List (Key × V)} (hu : Room64 X) (ha : Ed X O M ρ a (.d (.str x))) (hb : Ed X O M ρ b (.v (.ref p))) (hm : (p, Own.is (.dK kvs)) ∈ M) (hbm : behindInMarks .NotIn b = false := by rfl) : Et X O M ρ (.Compare a [.NotIn] [b] pos) (!(valV kvs (.inr x)).isSome) :=
  fun B σ H S Q q => wT_of (pt_cmp (pc_dnotin (by have := hu; unfold Room64 at this; omega) pe_w pe_w) hbm) (ha B σ H S _ fun x1 B1 H1 e1 S1 r1 => hb B1 σ H1 S1 _ fun y B2 H2 e2 S2 r2 => by
    have ev : y = .ref p := r2
    subst ev
    cases r1
    exact ⟨p, _, rfl, DGet.k (k := .inr x) (d_at S2 hm), _, rfl, q B2 H2 (e1.trans e2) S2⟩)
/-- an own list of data read as data -/
theorem own_dp {B H : Hp} {σ : L2.St} {p : Addr} {ds : List PyData} (S : Sit X.K O B M ρ σ H) (hm : (p, Own.lst (ds.map .d)) ∈ M) : Dp X.K H (.ref p) (.list ds) := by
  obtain ⟨h1, ⟨o, h2, xs, rfl, h3⟩, _⟩ := S.own _ hm
  have hb : Same B (upd B p (.lst xs)) := fun b u q => by rw [upd_ne (ne_of_none q h1)]; exact q
  have z : Da X.K (upd B p (.lst xs)) (.ref p) (.list ds) := .lst upd_same ((Los.da h3).mono hb)
  refine (Da.mono (fun b u q => ?_) z).dp
  by_cases hq : b = p
  · subst hq; rw [upd_same] at q; cases q; exact h2
  · rw [upd_ne hq] at q; exact S.bh _ _ q
theorem et_eqO {p : Addr} {ds : List PyData} {y : PyData} (hu : Room64 X) (ha : Ed X O M ρ a (.v (.ref p))) (hm : (p, Own.lst (ds.map .d)) ∈ M) (hb : Ed X O M ρ b (.d y)) (h : EqOk (.list ds) y) : Et X O M ρ (.Compare a [.Eq] [b] pos) (PyData.eqv (.list ds) y) :=
  et_cmp (op_eqA hu) ha hb fun B σ H S v w hv hw Q q => by
    have ev : v = .ref p := hv
    subst ev
    exact ⟨_, y, own_dp S hm, (Da.mono S.bh (show Da X.K B w y from hw)).dp, h, q _ B H (Same.refl _) S (.bl _)⟩
end
end K32

/-! # What the program's defs compute on lists of nodes, as plain Lean -/
namespace K32
open PySem
def encs (l : List Nd) : List PyData := l.map Nd.enc
theorem encs_len (l : List Nd) : (encs l).length = l.length := List.length_map _
theorem encs_getD {l : List Nd} {i : Nat} {n : Nd} (h : l[i]? = some n) : (encs l).getD i .none = n.enc := by
  rw [List.getD_eq_getElem?_getD]
  unfold encs
  rw [List.getElem?_map, h]
  rfl
theorem encs_get {l : List Nd} {i : Nat} {n : Nd} (h : l[i]? = some n) : (encs l)[i]? = some n.enc := by
  unfold encs
  rw [List.getElem?_map, h]
  rfl
theorem get_lt {α : Type} {l : List α} {i : Nat} (h : i < l.length) : ∃ n, l[i]? = some n := ⟨l[i], List.getElem?_eq_getElem h⟩
theorem take_succ' {α : Type} {l : List α} {i : Nat} {n : α} (h : l[i]? = some n) : l.take (i + 1) = l.take i ++ [n] := by
  rw [List.take_add_one, h]
  rfl
theorem drop_cons {α : Type} {l : List α} {i : Nat} {n : α} (h : l[i]? = some n) : l.drop i = n :: l.drop (i + 1) := by
  obtain ⟨h1, h2⟩ := List.getElem?_eq_some_iff.mp h
  rw [← h2]
  exact List.drop_eq_getElem_cons h1
/-- how many nodes are wanted behind a row of nodes -/
def want (l : List Nd) : Int := 1 + (l.map fun n => (n.binds.length : Int) - 1).sum
theorem want_succ {l : List Nd} {i : Nat} {n : Nd} (h : l[i]? = some n) : want (l.take (i + 1)) = want (l.take i) - 1 + n.binds.length := by
  unfold want
  rw [take_succ' h, List.map_append, List.sum_append]
  simp
  omega
/-- just one tree -/
def TreeL (l : List Nd) : Prop := (∀ i, i < l.length → 0 < want (l.take i)) ∧ want l = 0
/-- how many binders are around each node: the stack's top first -/
def arnd : List Nat → List Nd → List Nat
  | _, [] => []
  | [], _ :: _ => []
  | a :: st, n :: r => a :: arnd (n.binds.map (a + ·) ++ st) r
def arndS : List Nat → List Nd → List Nat
  | st, [] => st
  | [], _ :: _ => []
  | a :: st, n :: r => arndS (n.binds.map (a + ·) ++ st) r
theorem arndS_nil : ∀ l : List Nd, arndS [] l = []
  | [] => rfl
  | _ :: _ => rfl
theorem arnd_nil : ∀ l : List Nd, arnd [] l = []
  | [] => rfl
  | _ :: _ => rfl
theorem arndS_app : ∀ (xs : List Nd) (st : List Nat) (ys : List Nd), arndS st (xs ++ ys) = arndS (arndS st xs) ys
  | [], _, _ => rfl
  | x :: xs, [], ys => by
    show [] = arndS [] ys
    rw [arndS_nil]
  | x :: xs, a :: st, ys => arndS_app xs _ ys
theorem arnd_app : ∀ (xs : List Nd) (st : List Nat) (ys : List Nd), arnd st (xs ++ ys) = arnd st xs ++ arnd (arndS st xs) ys
  | [], _, _ => rfl
  | x :: xs, [], ys => by
    show [] = [] ++ arnd [] ys
    rw [arnd_nil]
    rfl
  | x :: xs, a :: st, ys => by
    show a :: arnd _ (xs ++ ys) = a :: (arnd _ xs ++ arnd _ ys)
    rw [arnd_app xs _ ys]
    rfl
/-- the walk of binders never lacks a number -/
def OkA (l : List Nd) : Prop := ∀ i, i < l.length → arndS [0] (l.take i) ≠ []
theorem arnd_turn {l : List Nd} {i : Nat} {n : Nd} {a : Nat} {st : List Nat} (h : l[i]? = some n) (hs : arndS [0] (l.take i) = a :: st) :
    arnd [0] (l.take (i + 1)) = arnd [0] (l.take i) ++ [a] ∧ arndS [0] (l.take (i + 1)) = n.binds.map (a + ·) ++ st := by
  rw [take_succ' h, arnd_app, arndS_app, hs]
  exact ⟨rfl, rfl⟩
theorem arnd_len : ∀ (l : List Nd) (st : List Nat), (arnd st l).length ≤ l.length
  | [], _ => Nat.zero_le _
  | _ :: _, [] => Nat.zero_le _
  | n :: r, a :: st => by
    show (arnd _ r).length + 1 ≤ r.length + 1
    exact Nat.succ_le_succ (arnd_len r _)
theorem arnd_full {l : List Nd} (h : OkA l) : ∀ i, i ≤ l.length → (arnd [0] (l.take i)).length = i
  | 0, _ => by rw [List.take_zero]; rfl
  | i + 1, hi => by
    obtain ⟨n, hn⟩ := get_lt (l := l) (i := i) (by omega)
    cases e : arndS [0] (l.take i) with
    | nil => exact absurd e (h i (by omega))
    | cons a st =>
      rw [(arnd_turn hn e).1, List.length_append, arnd_full h i (by omega)]
      rfl
def liftN (m : Nat) (n : Nd) (a : Nat) : Nd := match n with
  | .name i => if a ≤ i then .name (i + m) else .name i
  | n => n
def liftL (m : Nat) (l : List Nd) : List Nd := List.zipWith (liftN m) l (arnd [0] l)
def putN (o : List Nd) (n : Nd) (a : Nat) : List Nd := match n with
  | .name i => if i < a then [.name i] else if i = a then liftL a o else [.name (i - 1)]
  | n => [n]
def putL (o : List Nd) (l : List Nd) : List Nd := (List.zipWith (putN o) l (arnd [0] l)).flatten
/-- the ends: of each node the place behind all that belongs to it; the stack's top first -/
def popN : Nat → Nat → List Nat → Nat × List Nat
  | 0, e, st => (e, st)
  | _ + 1, e, [] => (e, [])
  | k + 1, _, a :: st => popN k a st
def endsF : Nat → List Nd → List Nat × List Nat
  | _, [] => ([], [])
  | p, n :: r => ((popN n.binds.length (p + 1) (endsF (p + 1) r).2).1 :: (endsF (p + 1) r).1, (popN n.binds.length (p + 1) (endsF (p + 1) r).2).1 :: (popN n.binds.length (p + 1) (endsF (p + 1) r).2).2)
def ends (l : List Nd) : List Nat := (endsF 0 l).1
theorem endsF_len : ∀ (l : List Nd) (p : Nat), (endsF p l).1.length = l.length
  | [], _ => rfl
  | n :: r, p => by
    show (endsF (p + 1) r).1.length + 1 = r.length + 1
    rw [endsF_len r]
/-- the walk of ends never lacks one -/
def OkE (l : List Nd) : Prop := ∀ p n, l[p]? = some n → n.binds.length ≤ (endsF (p + 1) (l.drop (p + 1))).2.length
theorem popN_le : ∀ (k e : Nat) (st : List Nat), (popN k e st).2.length ≤ st.length
  | 0, _, _ => Nat.le_refl _
  | _ + 1, _, [] => Nat.le_refl _
  | k + 1, _, a :: st => Nat.le_succ_of_le (popN_le k a st)
theorem endsF_stk : ∀ (l : List Nd) (p : Nat), (endsF p l).2.length ≤ l.length
  | [], _ => Nat.le_refl _
  | n :: r, p => by
    show (popN _ _ (endsF (p + 1) r).2).2.length + 1 ≤ r.length + 1
    have := popN_le n.binds.length (p + 1) (endsF (p + 1) r).2
    have := endsF_stk r (p + 1)
    omega
theorem popN_succ {k e : Nat} {st : List Nat} (h : k < st.length) : ∃ a r, (popN k e st).2 = a :: r ∧ popN (k + 1) e st = (a, r) := by
  induction k generalizing e st with
  | zero =>
    cases st with
    | nil => simp at h
    | cons a r => exact ⟨a, r, rfl, rfl⟩
  | succ k ih =>
    cases st with
    | nil => simp at h
    | cons a r => exact ih (e := a) (st := r) (by simpa using h)
end K32

set_option maxRecDepth 100000
set_option maxHeartbeats 4000000
namespace K32
open PySem L2
section
variable {P : Program} {w : World} {K : PySem.W.Frag} {mg : Str → Option Value} {base : Heap}
/-! ## basics -/
def R_integer : List PyData → PyData → Prop := fun ds d => ∃ i : Int, ds = [.int i] ∧ d = .bool true
theorem d_is_integer (T : Tx w K mg) : Def P w K mg base CX0 "is_integer" 1 ["value"] (spR K R_integer) := by
  refine def_R (f_is_integer T) (g_is_integer T) sc_is_integer (fun _ _ _ _ _ _ us hl => match us, hl with | [_], _ => rfl) (fun ds d h => by obtain ⟨i, rfl, rfl⟩ := h; rfl) fun cdv A outer s H E hr ds d h O D hD hq => ?_
  obtain ⟨i, rfl, rfl⟩ := h
  exact go_ret (ed_b (ed_and (ed_isn "int" "int" true (b_isinstance T) (ed_v 0) (b_int T)) fun _ => ed_not (ed_isn "bool" "int" false (b_isinstance T) (ed_v 0) (b_bool T)))) hq
def R_count : List PyData → PyData → Prop := fun ds d => ∃ i : Int, ds = [.int i] ∧ d = .bool (decide (0 ≤ i))
theorem d_is_count (T : Tx w K mg) : Def P w K mg base CX0 "is_count" 2 ["value"] (spR K R_count) := by
  refine def_R (f_is_count T) (g_is_count T) sc_is_count (fun _ _ _ _ _ _ us hl => match us, hl with | [_], _ => rfl) (fun ds d h => by obtain ⟨i, rfl, rfl⟩ := h; rfl) fun cdv A outer s H E hr ds d h O D hD hq => ?_
  obtain ⟨i, rfl, rfl⟩ := h
  exact go_ret (ed_b (ed_and (ed_callR (ds := [.int i]) (d_is_integer T) hr (ea_cons (ed_v 0) ea_nil) ⟨i, rfl, rfl⟩) fun _ => ed_ge (ed_v 0) ed_int)) hq
theorem kit2 {K : PySem.W.Frag} {d : PyData} {ds : List PyData} (h : d = .list ds ∨ d = .tuple ds) : PySem.W.kitAny K (.type (tyD d)) [.type "list", .type "tuple"] = some true := by
  rcases h with rfl | rfl
  · exact kitAny_cons (b := true) (kit_ty (show kitB "list" "list" = some true by decide +kernel)) (fun q => by cases q) fun _ => rfl
  · exact kitAny_cons (b := false) (kit_ty (show kitB "tuple" "list" = some false by decide +kernel)) (fun _ => kitAny_cons (b := true) (kit_ty (show kitB "tuple" "tuple" = some true by decide +kernel)) (fun q => by cases q) fun _ => rfl) fun q => by cases q
def R_list : List PyData → PyData → Prop := fun ds d => ∃ e fs, ds = [e] ∧ (e = .list fs ∨ e = .tuple fs) ∧ d = .bool true
theorem d_is_list (T : Tx w K mg) : Def P w K mg base CX0 "is_list" 1 ["value"] (spR K R_list) := by
  refine def_R (f_is_list T) (g_is_list T) sc_is_list (fun _ _ _ _ _ _ us hl => match us, hl with | [_], _ => rfl) (fun ds d h => by obtain ⟨e, fs, rfl, he, rfl⟩ := h; rfl) fun cdv A outer s H E hr ds d h O D hD hq => ?_
  obtain ⟨e, fs, rfl, he, rfl⟩ := h
  exact go_ret (ed_isi2 (b_isinstance T) (ed_v 0) (b_list T) (b_tuple T) (kit2 he)) hq
def R_most : List PyData → PyData → Prop := fun ds d => ∃ (s : Str) (a b : Int), ds = [.str s, .int a, .int b] ∧ b ≤ a ∧ d = .none
theorem d_want_at_most (T : Tx w K mg) : Def P w K mg base CX0 "want_at_most" 1 ["what", "limit", "number"] (spR K R_most) := by
  refine def_R (f_want_at_most T) (g_want_at_most T) sc_want_at_most (fun _ _ _ _ _ _ us hl => match us, hl with | [_, _, _], _ => rfl) (fun ds d h => by obtain ⟨z, a, b, rfl, hab, rfl⟩ := h; rfl) fun cdv A outer s H E hr ds d h O D hD hq => ?_
  obtain ⟨z, a, b, rfl, hab, rfl⟩ := h
  refine go_skip ((et_gt (ed_v 2) (ed_v 1)).is (by simpa using hab)) (go_nil fun B σ H' S => ?_)
  rw [hD]
  exact hq _ _ _ S.nx .non
/-! ## kinds -/
def R_letter_word : List PyData → PyData → Prop := fun ds d => ds = [.str "letter"] ∧ d = .bool true
theorem d_is_letter_word (T : Tx w K mg) : Def P w K mg base CX0 "is_letter_word" 1 ["value"] (spR K R_letter_word) := by
  refine def_R (f_is_letter_word T) (g_is_letter_word T) sc_is_letter_word (fun _ _ _ _ _ _ us hl => match us, hl with | [_], _ => rfl) (fun ds d h => by obtain ⟨rfl, rfl⟩ := h; rfl) fun cdv A outer s H E hr ds d h O D hD hq => ?_
  obtain ⟨rfl, rfl⟩ := h
  exact go_ret (ed_b (ed_and (ed_isn "str" "str" true (b_isinstance T) (ed_v 0) (b_str T)) fun _ => ed_eqS (ed_v 0) (ed_gs (c_LETTER T)))) hq
def R_letter : List PyData → PyData → Prop := fun ds d => ∃ i : Nat, ds = [.int i] ∧ i ≤ 5 ∧ d = .bool true
theorem d_is_letter (T : Tx w K mg) : Def P w K mg base CX0 "is_letter" 3 ["value"] (spR K R_letter) := by
  refine def_R (f_is_letter T) (g_is_letter T) sc_is_letter (fun _ _ _ _ _ _ us hl => match us, hl with | [_], _ => rfl) (fun ds d h => by obtain ⟨i, rfl, hi, rfl⟩ := h; rfl) fun cdv A outer s H E hr ds d h O D hD hq => ?_
  obtain ⟨i, rfl, hi, rfl⟩ := h
  refine go_ret ((ed_and (ed_callR (ds := [.int i]) (d_is_count T) hr (ea_cons (ed_v 0) ea_nil) ⟨i, rfl, rfl⟩) fun _ => ed_le (ed_v 0) (ed_gi (c_MOST_LETTER T))).is ?_) hq
  rw [decide_eq_true (by omega : (0 : Int) ≤ (i : Int)), decide_eq_true (by omega : (i : Int) ≤ 5)]
  rfl
/-- a letter or count -/
def isLf : Kd → Bool
  | .let_ i => decide (i ≤ 5)
  | .cnt => true
  | _ => false
def R_leaf : List PyData → PyData → Prop := fun ds d => ∃ k : Kd, ds = [k.enc] ∧ isLf k = true ∧ d = .bool true
theorem d_is_leaf (T : Tx w K mg) : Def P w K mg base CX0 "is_leaf" 4 ["value"] (spR K R_leaf) := by
  refine def_R (f_is_leaf T) (g_is_leaf T) sc_is_leaf (fun _ _ _ _ _ _ us hl => match us, hl with | [_], _ => rfl) (fun ds d h => by obtain ⟨k, rfl, hk, rfl⟩ := h; rfl) fun cdv A outer s H E hr ds d h O D hD hq => ?_
  obtain ⟨k, rfl, hk, rfl⟩ := h
  cases k with
  | let_ i =>
    have hi : i ≤ 5 := of_decide_eq_true hk
    refine go_skip (et_b (et_or (et_not (et_v (ed_isn "tuple" "tuple" true (b_isinstance T) (ed_v 0) (b_tuple T)))) fun _ => et_eqI (ed_lenT (b_len T) (ed_v 0)) ed_int)) ?_
    refine go_skip (et_b (et_eqI (ed_lenT (b_len T) (ed_v 0)) ed_int)) ?_
    exact go_ret (ed_b (ed_andc (ed_eqI (ed_lenT (b_len T) (ed_v 0)) ed_int) fun _ => ed_and (ed_callR (ds := [.str "letter"]) ((d_is_letter_word T).up (by decide)) hr (ea_cons (ed_ixT (ed_v 0) ed_int) ea_nil) ⟨rfl, rfl⟩)
      fun _ => ed_callR (ds := [.int i]) (d_is_letter T) hr (ea_cons (ed_ixT (ed_v 0) ed_int) ea_nil) ⟨i, rfl, hi, rfl⟩)) hq
  | cnt =>
    refine go_skip (et_b (et_or (et_not (et_v (ed_isn "tuple" "tuple" true (b_isinstance T) (ed_v 0) (b_tuple T)))) fun _ => et_eqI (ed_lenT (b_len T) (ed_v 0)) ed_int)) ?_
    refine go_take (et_b (et_eqI (ed_lenT (b_len T) (ed_v 0)) ed_int)) ?_
    exact go_ret (ed_b (ed_and (ed_isn "str" "str" true (b_isinstance T) (ed_ixT (ed_v 0) ed_int) (b_str T)) fun _ => ed_eqS (ed_ixT (ed_v 0) ed_int) (ed_gs (c_TELLING T)))) hq
  | pr a b => cases hk
  | sm a b => cases hk
  | fn a b => cases hk
def isBr : Kd → Bool
  | .pr _ _ => true
  | .sm _ _ => true
  | .fn _ _ => true
  | _ => false
def R_branch : List PyData → PyData → Prop := fun ds d => ∃ k : Kd, ds = [k.enc] ∧ d = .bool (isBr k)
theorem wPSF {K : PySem.W.Frag} : True := trivial
theorem d_is_branch (T : Tx w K mg) : Def P w K mg base CX0 "is_branch" 1 ["value"] (spR K R_branch) := by
  refine def_R (f_is_branch T) (g_is_branch T) sc_is_branch (fun _ _ _ _ _ _ us hl => match us, hl with | [_], _ => rfl) (fun ds d h => by obtain ⟨k, rfl, rfl⟩ := h; rfl) fun cdv A outer s H E hr ds d h O D hD hq => ?_
  obtain ⟨k, rfl, rfl⟩ := h
  have fin : ∀ (x : Str) (a b : PyData), [("pair" : Str), "sum", "fun"].contains x = true → RetOk K O D (.bool true) → Go (cxD P w K mg base "is_branch" s_is_branch N_is_branch (He.ga K "is_branch") cdv A outer s H E) O [] (at0 N_is_branch [.tuple [.str x, a, b]]) D (defBody s_is_branch) := by
    intro x a b hx hq
    refine go_skip (et_b (et_or (et_not (et_v (ed_isn "tuple" "tuple" true (b_isinstance T) (ed_v 0) (b_tuple T)))) fun _ => et_neI (ed_lenT (b_len T) (ed_v 0)) ed_int)) ?_
    refine go_ret ((ed_and (ed_isn "str" "str" true (b_isinstance T) (ed_ixT (ed_v 0) ed_int) (b_str T)) fun _ => ed_inS (x := x) (ss := ["pair", "sum", "fun"]) (ed_ixT (ed_v 0) ed_int)
      (ed_tup (ea_cons (ed_gs (c_PAIR T)) (ea_cons (ed_gs (c_SUM T)) (ea_cons (ed_gs (c_FUN T)) ea_nil))))).is ?_) hq
    rw [hx]
    rfl
  cases k with
  | let_ i =>
    refine go_take (et_b (et_or (et_not (et_v (ed_isn "tuple" "tuple" true (b_isinstance T) (ed_v 0) (b_tuple T)))) fun _ => et_neI (ed_lenT (b_len T) (ed_v 0)) ed_int)) ?_
    exact go_ret ed_bl hq
  | cnt =>
    refine go_take (et_b (et_or (et_not (et_v (ed_isn "tuple" "tuple" true (b_isinstance T) (ed_v 0) (b_tuple T)))) fun _ => et_neI (ed_lenT (b_len T) (ed_v 0)) ed_int)) ?_
    exact go_ret ed_bl hq
  | pr a b => exact fin "pair" _ _ (by decide +kernel) hq
  | sm a b => exact fin "sum" _ _ (by decide +kernel) hq
  | fn a b => exact fin "fun" _ _ (by decide +kernel) hq
end
end K32

set_option maxRecDepth 100000
set_option maxHeartbeats 4000000
namespace K32
open PySem L2
def stkL (S : List (Kd × Nat)) : List Lo := (S.map fun q => Lo.d (.tuple [q.1.enc, .int q.2])).reverse
def sigL (S : List (Kd × Nat)) : Nat := (S.map fun q => q.1.signs).sum
theorem signs_pos (k : Kd) : 1 ≤ k.signs := by cases k <;> simp only [Kd.signs] <;> omega
theorem sigL_len : ∀ S : List (Kd × Nat), S.length ≤ sigL S
  | [] => Nat.le_refl _
  | q :: S => by
    have := sigL_len S
    have := signs_pos q.1
    unfold sigL at *
    rw [List.map_cons, List.sum_cons, List.length_cons]
    omega
theorem stkL_len (S : List (Kd × Nat)) : (stkL S).length = S.length := by unfold stkL; rw [List.length_reverse, List.length_map]
theorem stkL_cons (q : Kd × Nat) (S : List (Kd × Nat)) : stkL (q :: S) = stkL S ++ [Lo.d (.tuple [q.1.enc, .int q.2])] := by unfold stkL; rw [List.map_cons, List.reverse_cons]
theorem br_split {k : Kd} (h : isBr k = true) : ∃ a b : Kd, k.enc = .tuple [.str k.word, a.enc, b.enc] ∧ k.signs = 1 + a.signs + b.signs ∧ k.deep = 1 + max a.deep b.deep ∧ k.lets = (a.lets && b.lets) := by
  cases k with
  | let_ i => cases h
  | cnt => cases h
  | pr a b => exact ⟨a, b, rfl, rfl, rfl, rfl⟩
  | sm a b => exact ⟨a, b, rfl, rfl, rfl, rfl⟩
  | fn a b => exact ⟨a, b, rfl, rfl, rfl, rfl⟩
theorem lf_split {k : Kd} (h : isBr k = false) (hl : k.lets = true) : isLf k = true ∧ k.signs = 1 := by
  cases k with
  | let_ i => exact ⟨hl, rfl⟩
  | cnt => exact ⟨rfl, rfl⟩
  | pr a b => cases h
  | sm a b => cases h
  | fn a b => cases h
section
variable {P : Program} {w : World} {K : PySem.W.Frag} {mg : Str → Option Value} {base : Heap}
def R_kind : List PyData → PyData → Prop := fun ds d => ∃ k : Kd, ds = [k.enc] ∧ k.ok = true ∧ d = .bool true
theorem d_is_kind (T : Tx w K mg) : Def P w K mg base CX0 "is_kind" 5 ["value"] (spR K R_kind) := by
  refine def_R (f_is_kind T) (g_is_kind T) sc_is_kind (fun _ _ _ _ _ _ us hl => match us, hl with | [_], _ => rfl) (fun ds d h => by obtain ⟨k, rfl, hk, rfl⟩ := h; rfl) fun cdv A outer s H E hr ds d h O D hD hq => ?_
  obtain ⟨k, rfl, hk, rfl⟩ := h
  have hok : k.lets = true ∧ k.signs ≤ 60 ∧ k.deep ≤ 12 := by
    unfold Kd.ok at hk
    simp only [Bool.and_eq_true, decide_eq_true_eq] at hk
    exact ⟨hk.1.1, hk.1.2, hk.2⟩
  refine go_par2 1 2 sc_is_kind.nd (ac_l (el_lst (ls := [.d (.tuple [k.enc, .int 1])]) (ea_cons (ed_tup (ds := [k.enc, .int 1]) (ea_cons (ed_v 0) (ea_cons ed_int ea_nil))) ea_nil)) fun p hp => ac_d (ed_int (i := 0)) ac_nil) ?_
  rintro M' ls ⟨p, r, hp, rfl, r2, rfl, rfl, rfl⟩
  refine ⟨_, _, rfl, ?_⟩
  refine go_while (α := List (Kd × Nat) × Nat) (fun q => [(p, .lst (stkL q.1))]) (fun q => [.d k.enc, .v (.ref p), .d (.int q.2), .no, .no]) (fun q => sigL q.1) ([(k, 1)], 0) rfl rfl
    (fun q => q.2 + sigL q.1 = k.signs ∧ ∀ z ∈ q.1, z.2 + z.1.deep ≤ 13 ∧ z.1.lets = true) ⟨by simp [sigL], by
      intro z hz
      simp at hz
      subst hz
      exact ⟨by have := hok.2.2; simp; omega, hok.1⟩⟩ ?_
  rintro ⟨S, n⟩ ⟨h1, h2⟩
  have hlen := sigL_len S
  have hs60 := hok.2.1
  cases S with
  | nil =>
    refine .inl ⟨et_b (et_gt (ed_lenO (b_len T) (ed_v 1) (List.mem_cons_self)) ed_int), go_ret ed_bl hq⟩
  | cons q S =>
    obtain ⟨k1, dp⟩ := q
    refine .inr ⟨et_b (et_gt (ed_lenO (b_len T) (ed_v 1) (List.mem_cons_self)) ed_int) (by rw [stkL_len]; simp), fun N hN hrt hbk => ?_⟩
    have hS : sigL ((k1, dp) :: S) = k1.signs + sigL S := by unfold sigL; rw [List.map_cons, List.sum_cons]
    have hq1 := h2 (k1, dp) List.mem_cons_self
    dsimp only at h1 hq1
    have hl2 := sigL_len S
    rw [hS] at h1
    have hsp := signs_pos k1
    have hq' : RetOk K O N (.bool true) := fun B H v n r => by rw [hrt]; exact hq B H v n r
    refine go_popG 0 (ed_v 1) (by rw [stkL_cons]; rfl) (pg_tup rfl (pgs_cons (pg_name (i := 3) sc_is_kind.nd rfl (.inl rfl)) (pgs_cons (pg_name (i := 4) sc_is_kind.nd rfl (.inl rfl)) pgs_nil))) (tg_two 3 4) ?_
    refine go_asg 2 sc_is_kind.nd (ed_add (ed_v 2) ed_int) ?_
    have hd1 : 1 ≤ k1.deep := by cases k1 <;> simp only [Kd.deep] <;> omega
    refine go_skip (et_b (et_or (et_gt (ed_v 2) (ed_gi (c_MOST_SIGNS T))) fun _ => et_gt (ed_v 4) (ed_gi (c_MOST_DEEP T))) (by
      rw [decide_eq_false (by omega), decide_eq_false (by omega)]; rfl)) ?_
    cases hb : isBr k1 with
    | true =>
      obtain ⟨a, b, e1, e3, e4, e5⟩ := br_split hb
      refine go_take (et_v (ed_is (ed_callR (ds := [k1.enc]) ((d_is_branch T).up (by decide)) hr (ea_cons (ed_v 3) ea_nil) ⟨k1, rfl, rfl⟩) (by rw [hb]))) ?_
      rw [e1]
      refine go_extend (ds := [.tuple [a.enc, .int (dp + 1)], .tuple [b.enc, .int (dp + 1)]]) 0 1 (ed_v 1) rfl
        (ed_lst (ea_cons (ed_tup (ds := [a.enc, .int (dp + 1)]) (ea_cons (ed_ixT (ed_v 3) ed_int) (ea_cons (ed_add (ed_v 4) ed_int) ea_nil))) (ea_cons (ed_tup (ds := [b.enc, .int (dp + 1)]) (ea_cons (ed_ixT (ed_v 3) ed_int) (ea_cons (ed_add (ed_v 4) ed_int) ea_nil))) ea_nil))) (by rw [stkL_len]; show S.length + 2 ≤ 100000; omega) ?_
      refine go_thn (go_nil fun B σ H' S' => hN ((b, dp + 1) :: (a, dp + 1) :: S, n + 1) ⟨?_, ?_⟩ ?_ B σ H' ?_)
      · unfold sigL at *
        simp only [List.map_cons, List.sum_cons] at *
        omega
      · intro z hz
        rw [e5] at hq1
        have hb := Bool.and_eq_true_iff.mp hq1.2
        rcases List.mem_cons.mp hz with rfl | hz
        · exact ⟨by dsimp only; omega, hb.2⟩
        · rcases List.mem_cons.mp hz with rfl | hz
          · exact ⟨by dsimp only; omega, hb.1⟩
          · exact h2 z (List.mem_cons_of_mem _ hz)
      · unfold sigL at *
        simp only [List.map_cons, List.sum_cons] at *
        omega
      · have e : stkL ((b, dp + 1) :: (a, dp + 1) :: S) = stkL S ++ [.d (.tuple [a.enc, .int (dp + 1)]), .d (.tuple [b.enc, .int (dp + 1)])] := by
          rw [stkL_cons, stkL_cons, List.append_assoc]
          rfl
        dsimp only
        rw [e]
        exact S'.wk (by repeat' (first | exact Paired.nil | refine Paired.cons (.inr rfl) ?_ | refine Paired.cons (.inl rfl) ?_))
    | false =>
      obtain ⟨e2, e3⟩ := lf_split hb hq1.2
      refine go_if (k := false) (et_v (ed_is (ed_callR (ds := [k1.enc]) ((d_is_branch T).up (by decide)) hr (ea_cons (ed_v 3) ea_nil) ⟨k1, rfl, rfl⟩) (by rw [hb]))) (fun z => by cases z) fun _ => ?_
      refine go_skip (et_b (et_not (et_v (ed_callR (ds := [k1.enc]) (d_is_leaf T) hr (ea_cons (ed_v 3) ea_nil) ⟨k1, rfl, e2, rfl⟩)))) ?_
      refine go_thn (go_nil fun B σ H' S' => hN (S, n + 1) ⟨?_, fun z hz => h2 z (List.mem_cons_of_mem _ hz)⟩ ?_ B σ H' ?_)
      · dsimp only
        omega
      · dsimp only
        omega
      · exact S'.wk (by repeat' (first | exact Paired.nil | refine Paired.cons (.inr rfl) ?_ | refine Paired.cons (.inl rfl) ?_))
end
end K32

set_option maxRecDepth 100000
set_option maxHeartbeats 4000000
namespace K32
open PySem L2
/-- a node of the program's -/
def Nd.ok : Nd → Bool
  | .name i => decide (i ≤ 299)
  | .told n => decide (n ≤ 1000000)
  | .fn A => A.ok
  | .left B => B.ok
  | .right A => A.ok
  | .turns A => A.ok
  | _ => true
theorem nd_split (n : Nd) : (∃ A : Kd, n.enc = .tuple [.str n.word, A.enc] ∧ n.ok = A.ok ∧ [("fun" : Str), "left", "right", "turns"].contains n.word = true) ∨ (∃ i, n = .name i) ∨ (∃ i, n = .told i) ∨
    (n.enc = .tuple [.str n.word] ∧ [("fun" : Str), "left", "right", "turns"].contains n.word = false ∧ decide (n.word = "name") = false ∧ decide (n.word = "told") = false) := by
  cases n with
  | name i => exact .inr (.inl ⟨i, rfl⟩)
  | told i => exact .inr (.inr (.inl ⟨i, rfl⟩))
  | fn A => exact .inl ⟨A, rfl, rfl, (show [("fun" : Str), "left", "right", "turns"].contains ("fun" : Str) = true by decide +kernel)⟩
  | left A => exact .inl ⟨A, rfl, rfl, (show [("fun" : Str), "left", "right", "turns"].contains ("left" : Str) = true by decide +kernel)⟩
  | right A => exact .inl ⟨A, rfl, rfl, (show [("fun" : Str), "left", "right", "turns"].contains ("right" : Str) = true by decide +kernel)⟩
  | turns A => exact .inl ⟨A, rfl, rfl, (show [("fun" : Str), "left", "right", "turns"].contains ("turns" : Str) = true by decide +kernel)⟩
  | call => exact .inr (.inr (.inr ⟨rfl, by decide +kernel, by decide +kernel, by decide +kernel⟩))
  | both => exact .inr (.inr (.inr ⟨rfl, by decide +kernel, by decide +kernel, by decide +kernel⟩))
  | first => exact .inr (.inr (.inr ⟨rfl, by decide +kernel, by decide +kernel, by decide +kernel⟩))
  | second => exact .inr (.inr (.inr ⟨rfl, by decide +kernel, by decide +kernel, by decide +kernel⟩))
  | which => exact .inr (.inr (.inr ⟨rfl, by decide +kernel, by decide +kernel, by decide +kernel⟩))
  | next => exact .inr (.inr (.inr ⟨rfl, by decide +kernel, by decide +kernel, by decide +kernel⟩))
  | lt => exact .inr (.inr (.inr ⟨rfl, by decide +kernel, by decide +kernel, by decide +kernel⟩))
section
variable {P : Program} {w : World} {K : PySem.W.Frag} {mg : Str → Option Value} {base : Heap}
def R_node : List PyData → PyData → Prop := fun ds d => ∃ n : Nd, ds = [n.enc] ∧ n.ok = true ∧ d = .bool true
theorem d_is_node (T : Tx w K mg) : Def P w K mg base CX0 "is_node" 6 ["value"] (spR K R_node) := by
  refine def_R (f_is_node T) (g_is_node T) sc_is_node (fun _ _ _ _ _ _ us hl => match us, hl with | [_], _ => rfl) (fun ds d h => by obtain ⟨n, rfl, hn, rfl⟩ := h; rfl) fun cdv A outer s H E hr ds d h O D hD hq => ?_
  obtain ⟨n, rfl, hn, rfl⟩ := h
  have hs : ∃ r, n.enc = .tuple (.str n.word :: r) := node_shape n
  refine go_skip (et_or4 (et_b (et_not (et_v (ed_isn "tuple" "tuple" true (b_isinstance T) (ed_v 0) (b_tuple T) (by cases n <;> rfl))))) (by
      obtain ⟨r, e⟩ := hs
      exact et_b (et_eqI (ed_lenT (b_len T) (ed_is (ed_v 0) (by rw [e]))) ed_int) (by rw [decide_eq_false]; simp; omega))
    (et_b (et_not (et_v (ed_isn "str" "str" true (b_isinstance T) (ed_word (ed_v 0)) (b_str T))))) (et_inBinds T (ed_word (ed_v 0)))) ?_
  rcases nd_split n with ⟨B, e, e2, e3⟩ | ⟨i, rfl⟩ | ⟨i, rfl⟩ | ⟨e, e3, e4, e5⟩
  · refine go_take (et_b (et_inS (ed_word (ed_v 0)) (ed_withKind T)) e3) ?_
    rw [e2] at hn
    exact go_ret (ed_b (ed_and (ed_eqI (ed_lenT (b_len T) (ed_is (ed_v 0) (by rw [e]))) ed_int) fun _ => ed_callR (ds := [B.enc]) (d_is_kind T) hr (ea_cons (ed_ixT (ds := [.str n.word, B.enc]) (ed_is (ed_v 0) (by rw [e])) ed_int) ea_nil) ⟨B, rfl, hn, rfl⟩)) hq
  · have hi : i ≤ 299 := of_decide_eq_true hn
    refine go_skip (et_b (et_inS (ed_word (ed_v 0)) (ed_withKind T))) ?_
    refine go_take (et_b (et_eqS (ed_word (ed_v 0)) (ed_gs (c_NAME T)))) ?_
    exact go_ret (ed_b (ed_andc (ed_eqI (ed_lenT (b_len T) (ed_v 0)) ed_int) fun _ => ed_and (ed_callR (ds := [.int i]) ((d_is_count T).up (by decide)) hr (ea_cons (ed_ixT (ed_v 0) ed_int) ea_nil) ⟨i, rfl, rfl⟩) fun _ => ed_le (ed_ixT (ed_v 0) ed_int) (ed_gi (c_MOST_OUT T)))
      (by rw [decide_eq_true (by omega : (0 : Int) ≤ (i : Int)), decide_eq_true (by omega : (i : Int) ≤ 299)]; rfl)) hq
  · have hi : i ≤ 1000000 := of_decide_eq_true hn
    refine go_skip (et_b (et_inS (ed_word (ed_v 0)) (ed_withKind T))) ?_
    refine go_skip (et_b (et_eqS (ed_word (ed_v 0)) (ed_gs (c_NAME T)))) ?_
    refine go_take (et_b (et_eqS (ed_word (ed_v 0)) (ed_gs (c_TOLD T)))) ?_
    exact go_ret (ed_b (ed_andc (ed_eqI (ed_lenT (b_len T) (ed_v 0)) ed_int) fun _ => ed_and (ed_callR (ds := [.int i]) ((d_is_count T).up (by decide)) hr (ea_cons (ed_ixT (ed_v 0) ed_int) ea_nil) ⟨i, rfl, rfl⟩) fun _ => ed_le (ed_ixT (ed_v 0) ed_int) (ed_gi (c_MOST_TOLD T)))
      (by rw [decide_eq_true (by omega : (0 : Int) ≤ (i : Int)), decide_eq_true (by omega : (i : Int) ≤ 1000000)]; rfl)) hq
  · refine go_skip (et_b (et_inS (ed_word (ed_v 0)) (ed_withKind T)) e3) ?_
    refine go_skip (et_b (et_eqS (ed_word (ed_v 0)) (ed_gs (c_NAME T))) e4) ?_
    refine go_skip (et_b (et_eqS (ed_word (ed_v 0)) (ed_gs (c_TOLD T))) e5) ?_
    exact go_ret (ed_b (ed_eqI (ed_lenT (b_len T) (ed_is (ed_v 0) (by rw [e]))) ed_int)) hq
end
end K32

set_option maxRecDepth 100000
set_option maxHeartbeats 4000000
namespace K32
open PySem L2
/-- a list or a tuple of these -/
def SeqD (d : PyData) (ds : List PyData) : Prop := d = .list ds ∨ d = .tuple ds
section
variable {X : Cx} {O : Og} {M : Owns} {ρ : List Lo} {e a b c tg : Expr} {pos p1 : Pos}
theorem it_seq {d : PyData} {ds : List PyData} (h : Ed X O M ρ e (.d d)) (hd : SeqD d ds) : Iter X O M ρ tg e ds.length (fun i => ds.getD i .none) := by
  rcases hd with rfl | rfl
  · exact it_list h
  · exact it_tup h
theorem ed_lenS {d : PyData} {ds : List PyData} (hm : X.mg "len" = none) (h : Ed X O M ρ e (.d d)) (hd : SeqD d ds) (hg : Gl X "len" := by rfl) (he : starEach [e] X.env = (false, eval e X.env) :: starEach [] X.env := by rfl) : Ed X O M ρ (.Call (.Name "len" p1) [e] [] pos) (.d (.int ds.length)) := by
  rcases hd with rfl | rfl
  · exact ed_lenL hm h hg he
  · exact ed_lenT hm h hg he
theorem ed_ixS {d v : PyData} {ds : List PyData} {i : Nat} (ha : Ed X O M ρ a (.d d)) (hd : SeqD d ds) (hb : Ed X O M ρ b (.d (.int i))) (h : ds[i]? = some v) (hs : PlainIx b := by exact fun _ _ => rfl) : Ed X O M ρ (.Subscript a b pos) (.d v) := by
  rcases hd with rfl | rfl
  · exact ed_ixL ha hb (atI_nat h) hs
  · exact ed_ixT ha hb (atI_nat h) hs
end
section
variable {P : Program} {w : World} {K : PySem.W.Frag} {mg : Str → Option Value} {base : Heap}
def R_tree : List PyData → PyData → Prop := fun ds d => ∃ e l, ds = [e] ∧ SeqD e (encs l) ∧ TreeL l ∧ d = .bool true
theorem d_are_tree (T : Tx w K mg) : Def P w K mg base CX0 "are_tree" 1 ["nodes"] (spR K R_tree) := by
  refine def_R (f_are_tree T) (g_are_tree T) sc_are_tree (fun _ _ _ _ _ _ us hl => match us, hl with | [_], _ => rfl) (fun ds d h => by obtain ⟨e, l, rfl, he, hl, rfl⟩ := h; rfl) fun cdv A outer s H E hr ds d h O D hD hq => ?_
  obtain ⟨e, l, rfl, he, hl, rfl⟩ := h
  refine go_asg 1 sc_are_tree.nd ed_int ?_
  refine go_for (fun _ => []) (fun i => [.d e, .d (.int (want (l.take i))), .no]) (it_seq (ed_v 0) he) (pg_name (i := 2) sc_are_tree.nd rfl (.inl rfl)) rfl rfl (fun L i hi => ⟨_, tg_name 2, ?_⟩) ?_
  · rw [encs_len] at hi
    obtain ⟨n, hn⟩ := get_lt hi
    rw [encs_getD hn]
    have hp := hl.1 i hi
    refine go_skip (et_b (et_eqI (ed_v 1) ed_int) (decide_eq_false (by omega))) ?_
    refine go_asg 1 sc_are_tree.nd (ed_add (ed_sub (ed_v 1) ed_int) (ed_lenT (b_len T) (ed_binds T (ed_word (ed_v 2))))) ?_
    refine go_turnW rfl ?_
    have e1 : want (l.take i) - 1 + ((intsD n.binds).length : Int) = want (l.take (i + 1)) := by rw [want_succ hn]; unfold intsD; rw [List.length_map]
    rw [e1]
    exact Paired.cons (.inr rfl) (Paired.cons (.inr rfl) (Paired.cons (.inl rfl) Paired.nil))
  · rw [encs_len, List.take_length, hl.2]
    exact go_ret (ed_b (ed_eqI (ed_v 1) ed_int)) hq
def R_term : List PyData → PyData → Prop := fun ds d => ∃ e l, ds = [e] ∧ SeqD e (encs l) ∧ TreeL l ∧ 1 ≤ l.length ∧ l.length ≤ 300 ∧ (∀ n ∈ l, n.ok = true) ∧ d = .bool true
theorem d_is_term (T : Tx w K mg) : Def P w K mg base CX0 "is_term" 7 ["value"] (spR K R_term) := by
  refine def_R (f_is_term T) (g_is_term T) sc_is_term (fun _ _ _ _ _ _ us hl => match us, hl with | [_], _ => rfl) (fun ds d h => by obtain ⟨e, l, rfl, he, hl, h1, h3, hn, rfl⟩ := h; rfl) fun cdv A outer s H E hr ds d h O D hD hq => ?_
  obtain ⟨e, l, rfl, he, hl, h1, h3, hn, rfl⟩ := h
  refine go_skip (et_or3 (et_b (et_not (et_v (ed_callR (ds := [e]) ((d_is_list T).up (by decide)) hr (ea_cons (ed_v 0) ea_nil) ⟨e, _, rfl, he, rfl⟩))))
    (et_b (et_not (et_leLe ed_int (ed_lenS (b_len T) (ed_v 0) he) (ed_gi (c_MOST_NODES T)))) (by rw [encs_len, decide_eq_true (by omega), decide_eq_true (by omega)]; rfl))
    (et_b (et_not (et_v (ed_all (bs := (List.range (encs l).length).map fun _ => true) rfl (b_all T) (El.ed (ds := ((List.range (encs l).length).map fun _ => true).map .bool) (El.is (el_lc 1 (ls := fun _ => .d (.bool true)) rfl sc_is_term.nd (it_seq (ed_v 0) he) (blkOk_by (N := N_is_term) (sc := defScope s_is_term) (own := [("node", 1)]) (by decide +kernel)) (fun _ _ _ _ _ => pg_name (i := 1) sc_is_term.nd rfl (.inl rfl))
      (by rw [encs_len]; omega) (fun L p w' k hk s' H' C' cl fp => ?_)) (by rw [List.map_map, List.map_map]; rfl)))))) (by
        have : ((List.range (encs l).length).map fun _ => true).all id = true := by
          rw [List.all_eq_true]
          intro x hx
          obtain ⟨_, _, rfl⟩ := List.mem_map.mp hx
          rfl
        rw [this]; rfl))) ?_
  · rw [encs_len] at hk
    obtain ⟨n, hg⟩ := get_lt hk
    rw [encs_getD hg]
    exact ed_callR (ds := [n.enc]) (d_is_node T) hr (ea_cons (ed_v 1) ea_nil) ⟨n, rfl, hn n (List.mem_of_getElem? hg), rfl⟩
  · exact go_ret (ed_callR (ds := [e]) ((d_are_tree T).up (by decide)) hr (ea_cons (ed_v 0) ea_nil) ⟨e, l, rfl, he, hl, rfl⟩) hq
def R_position : List PyData → PyData → Prop := fun ds d => ∃ e fs, ∃ i : Nat, ds = [e, .int i] ∧ SeqD e fs ∧ i < fs.length ∧ d = .none
theorem d_want_position (T : Tx w K mg) : Def P w K mg base CX0 "want_position" 3 ["nodes", "value"] (spR K R_position) := by
  refine def_R (f_want_position T) (g_want_position T) sc_want_position (fun _ _ _ _ _ _ us hl => match us, hl with | [_, _], _ => rfl) (fun ds d h => by obtain ⟨e, fs, i, rfl, he, hi, rfl⟩ := h; rfl) fun cdv A outer s H E hr ds d h O D hD hq => ?_
  obtain ⟨e, fs, i, rfl, he, hi, rfl⟩ := h
  refine go_skip (et_b (et_or (et_b (k' := false) (et_not (et_v (ed_callR (ds := [.int i]) (d_is_count T) hr (ea_cons (ed_v 1) ea_nil) ⟨i, rfl, rfl⟩))) (by rw [decide_eq_true (by omega)]; rfl)) fun _ => et_ge (ed_v 1) (ed_lenS (b_len T) (ed_v 0) he)) (by rw [decide_eq_false (by omega)]; rfl)) (go_nil fun B σ H' S => ?_)
  rw [hD]
  exact hq _ _ _ S.nx .non
end
end K32

set_option maxRecDepth 100000
set_option maxHeartbeats 4000000
namespace K32
open PySem L2
theorem intsD_app (a b : List Nat) : intsD (a ++ b) = intsD a ++ intsD b := List.map_append
theorem intsD_len (a : List Nat) : (intsD a).length = a.length := List.length_map _
theorem intsD_getD {l : List Nat} {i n : Nat} (h : l[i]? = some n) : (intsD l).getD i .none = .int n := by
  rw [List.getD_eq_getElem?_getD]
  unfold intsD
  rw [List.getElem?_map, h]
  rfl
theorem intsD_get {l : List Nat} {i n : Nat} (h : l[i]? = some n) : (intsD l)[i]? = some (.int n) := by
  unfold intsD
  rw [List.getElem?_map, h]
  rfl
theorem range_get {α : Type} (d : α) : ∀ l : List α, (List.range l.length).map (fun k => l.getD k d) = l := fun l => by
  apply List.ext_getElem?
  intro i
  rw [List.getElem?_map]
  by_cases h : i < l.length
  · rw [List.getElem?_range h, List.getElem?_eq_getElem h]
    simp [List.getD_eq_getElem?_getD, List.getElem?_eq_getElem h]
  · rw [List.getElem?_eq_none (by rw [List.length_range]; omega), List.getElem?_eq_none (by omega)]
    rfl
section
variable {P : Program} {w : World} {K : PySem.W.Frag} {mg : Str → Option Value} {base : Heap}
theorem nat_len_binds (n : Nd) : n.binds.length ≤ 3 := by cases n <;> simp [Nd.binds]
/-! ## binders_around -/
theorem arndS_len {l : List Nd} (h : OkA l) : ∀ i, i ≤ l.length → (arndS [0] (l.take i)).length ≤ 1 + 3 * i
  | 0, _ => by rw [List.take_zero]; exact Nat.le_refl _
  | i + 1, hi => by
    obtain ⟨n, hn⟩ := get_lt (l := l) (i := i) (by omega)
    have ih := arndS_len h i (by omega)
    cases e : arndS [0] (l.take i) with
    | nil => exact absurd e (h i (by omega))
    | cons a st =>
      rw [e] at ih
      rw [(arnd_turn hn e).2, List.length_append, List.length_map]
      have := nat_len_binds n
      simp at ih
      omega
def R_around : List PyData → PyData → Prop := fun ds d => ∃ l, ds = [.list (encs l)] ∧ OkA l ∧ l.length ≤ 1000 ∧ d = .list (intsD (arnd [0] l))
theorem d_binders_around (T : Tx w K mg) : Def P w K mg base CX0 "binders_around" 1 ["nodes"] (spR K R_around) := by
  refine def_R (f_binders_around T) (g_binders_around T) sc_binders_around (fun _ _ _ _ _ _ us hl => match us, hl with | [_], _ => rfl) (fun ds d h => by obtain ⟨l, rfl, hl, hz, rfl⟩ := h; rfl) fun cdv A outer s H E hr ds d h O D hD hq => ?_
  obtain ⟨l, rfl, hl, hz, rfl⟩ := h
  refine go_par2 1 2 sc_binders_around.nd (ac_l (el_lst (ls := []) ea_nil) fun p hp => ac_l (el_lst (ls := [.d (.int 0)]) (ea_cons ed_int ea_nil)) fun r hr' => ac_nil) ?_
  rintro M' ls ⟨p, r, hp, rfl, r2, _, hr2, rfl, rfl, rfl⟩
  refine ⟨_, _, rfl, ?_⟩
  refine go_for (fun i => [(r2, .lst ((intsD (arndS [0] (l.take i)).reverse).map .d)), (p, .lst ((intsD (arnd [0] (l.take i))).map .d))]) (fun i => [.d (.list (encs l)), .v (.ref p), .v (.ref r2), .no, .no, .no]) (it_list (ed_v 0)) (pg_name (i := 3) sc_binders_around.nd rfl (.inl rfl)) rfl rfl (fun L i hi => ⟨_, tg_name 3, ?_⟩) ?_
  · rw [encs_len] at hi
    obtain ⟨n, hn⟩ := get_lt hi
    rw [encs_getD hn]
    have hlen := arndS_len hl i (by omega)
    have hal := arnd_full hl i (by omega)
    cases e : arndS [0] (l.take i) with
    | nil => exact absurd e (hl i hi)
    | cons a st =>
      obtain ⟨t1, t2⟩ := arnd_turn hn e
      rw [e] at hlen
      simp at hlen
      refine go_pop 0 4 (l := .d (.int a)) (ls := (intsD st.reverse).map .d) sc_binders_around.nd (ed_v 2) (by rw [List.reverse_cons, intsD_app, List.map_append]; rfl) ?_
      refine go_append 1 1 (ed_v 1) rfl (ed_v 4) (by rw [List.length_map, intsD_len, hal]; omega) ?_
      refine go_extend (ds := (List.range (intsD n.binds).reverse.length).map fun k => .int ((a : Int) + ((n.binds.reverse.getD k 0 : Nat) : Int))) 0 2 (ed_v 2) rfl (El.ed (El.is (el_lc 5 (ls := fun k => .d (.int ((a : Int) + ((n.binds.reverse.getD k 0 : Nat) : Int)))) rfl sc_binders_around.nd
        (it_tup (ed_revT (by rw [intsD_len]; exact nat_len_binds n) (ed_binds T (ed_word (ed_v 3))))) (blkOk_by (N := N_binders_around) (sc := defScope s_binders_around) (own := [("more", 5)]) (by decide +kernel)) (fun _ _ _ _ _ => pg_name (i := 5) sc_binders_around.nd rfl (.inl rfl)) (by rw [List.length_reverse, intsD_len]; have := nat_len_binds n; omega)
        (fun L p w' k hk s' H' C' cl fp => ?_)) (by rw [List.map_map]; rfl))) (by rw [List.length_map, intsD_len, List.length_reverse, List.length_map, List.length_range, List.length_reverse, intsD_len]; have := nat_len_binds n; omega) ?_
      · rw [List.length_reverse, intsD_len] at hk
        have hk2 : k < n.binds.reverse.length := by rw [List.length_reverse]; exact hk
        obtain ⟨m, hm⟩ := get_lt hk2
        have e1 : (intsD n.binds).reverse.getD k .none = .int m := by
          have : (intsD n.binds).reverse = intsD n.binds.reverse := by unfold intsD; rw [List.map_reverse]
          rw [this, intsD_getD hm]
        have e2 : n.binds.reverse.getD k 0 = m := by rw [List.getD_eq_getElem?_getD, hm]; rfl
        rw [e1, e2]
        exact ed_add (ed_v 4) (ed_v 5)
      · refine go_turnW ?_ (by repeat' (first | exact Paired.nil | refine Paired.cons (.inr rfl) ?_ | refine Paired.cons (.inl rfl) ?_))
        have e3 : ((List.range (intsD n.binds).reverse.length).map fun k => PyData.int ((a : Int) + ((n.binds.reverse.getD k 0 : Nat) : Int))) = intsD ((n.binds.map (a + ·)).reverse) := by
          have h1 : (intsD n.binds).reverse.length = n.binds.reverse.length := by rw [List.length_reverse, intsD_len, List.length_reverse]
          rw [h1]
          have h2 : (n.binds.map (a + ·)).reverse = n.binds.reverse.map (a + ·) := by rw [List.map_reverse]
          rw [h2]
          unfold intsD
          rw [List.map_map]
          conv => rhs; rw [← range_get 0 n.binds.reverse]
          rw [List.map_map]
          rfl
        rw [e3, t1, t2]
        show [(r2, Own.lst (((intsD st.reverse).map .d) ++ (intsD ((n.binds.map (a + ·)).reverse)).map .d)), (p, Own.lst ((intsD (arnd [0] (l.take i))).map .d ++ [.d (.int a)]))] = _
        rw [List.reverse_append, intsD_app, List.map_append, intsD_app, List.map_append]
        rfl
  · rw [encs_len, List.take_length]
    refine go_freeze 1 1 hp ?_
    exact go_ret (ed_v 1) hq
end
end K32

set_option maxRecDepth 100000
set_option maxHeartbeats 4000000
namespace K32
open PySem L2
theorem zw_get {α β γ : Type} {f : α → β → γ} {l : List α} {m : List β} {i : Nat} {a : α} {b : β} (h1 : l[i]? = some a) (h2 : m[i]? = some b) : (List.zipWith f l m)[i]? = some (f a b) := by
  rw [List.getElem?_zipWith, h1, h2]
theorem name_or (n : Nd) : (∃ i, n = .name i) ∨ (decide (n.word = "name") = false ∧ (∀ m a, liftN m n a = n) ∧ ∀ o a, putN o n a = [n]) := by
  cases n with
  | name i => exact .inl ⟨i, rfl⟩
  | told i => exact .inr ⟨(show decide (("told" : Str) = "name") = false by decide +kernel), fun _ _ => rfl, fun _ _ => rfl⟩
  | fn A => exact .inr ⟨(show decide (("fun" : Str) = "name") = false by decide +kernel), fun _ _ => rfl, fun _ _ => rfl⟩
  | left A => exact .inr ⟨(show decide (("left" : Str) = "name") = false by decide +kernel), fun _ _ => rfl, fun _ _ => rfl⟩
  | right A => exact .inr ⟨(show decide (("right" : Str) = "name") = false by decide +kernel), fun _ _ => rfl, fun _ _ => rfl⟩
  | turns A => exact .inr ⟨(show decide (("turns" : Str) = "name") = false by decide +kernel), fun _ _ => rfl, fun _ _ => rfl⟩
  | call => exact .inr ⟨by decide +kernel, fun _ _ => rfl, fun _ _ => rfl⟩
  | both => exact .inr ⟨by decide +kernel, fun _ _ => rfl, fun _ _ => rfl⟩
  | first => exact .inr ⟨by decide +kernel, fun _ _ => rfl, fun _ _ => rfl⟩
  | second => exact .inr ⟨by decide +kernel, fun _ _ => rfl, fun _ _ => rfl⟩
  | which => exact .inr ⟨by decide +kernel, fun _ _ => rfl, fun _ _ => rfl⟩
  | next => exact .inr ⟨by decide +kernel, fun _ _ => rfl, fun _ _ => rfl⟩
  | lt => exact .inr ⟨by decide +kernel, fun _ _ => rfl, fun _ _ => rfl⟩
theorem arnd_tot {l : List Nd} (h : OkA l) : (arnd [0] l).length = l.length := by
  have := arnd_full h l.length (Nat.le_refl _)
  rwa [List.take_length] at this
theorem liftL_len {m : Nat} {l : List Nd} (h : OkA l) : (liftL m l).length = l.length := by
  unfold liftL
  rw [List.length_zipWith, arnd_tot h, Nat.min_self]
theorem encs_app (a b : List Nd) : encs (a ++ b) = encs a ++ encs b := List.map_append
section
variable {P : Program} {w : World} {K : PySem.W.Frag} {mg : Str → Option Value} {base : Heap}
def R_lifted : List PyData → PyData → Prop := fun ds d => ∃ l, ∃ m : Nat, ds = [.list (encs l), .int m] ∧ OkA l ∧ l.length ≤ 1000 ∧ d = .list (encs (liftL m l))
theorem d_lifted_nodes (T : Tx w K mg) : Def P w K mg base CX0 "lifted_nodes" 2 ["nodes", "many"] (spR K R_lifted) := by
  refine def_R (f_lifted_nodes T) (g_lifted_nodes T) sc_lifted_nodes (fun _ _ _ _ _ _ us hl => match us, hl with | [_, _], _ => rfl) (fun ds d h => by obtain ⟨l, m, rfl, hl, hz, rfl⟩ := h; rfl) fun cdv A outer s H E hr ds d h O D hD hq => ?_
  obtain ⟨l, m, rfl, hl, hz, rfl⟩ := h
  refine go_asgL 2 sc_lifted_nodes.nd (el_lst (ls := []) ea_nil) fun p hp => ?_
  refine go_for (fun i => [(p, .lst ((encs ((liftL m l).take i)).map .d))]) (fun i => [.d (.list (encs l)), .d (.int m), .v (.ref p), .no, .no])
    (it_zip (b_zip T) (ed_v 0) (ed_callR (ds := [.list (encs l)]) ((d_binders_around T).up (by decide)) hr (ea_cons (ed_v 0) ea_nil) ⟨l, rfl, hl, hz, rfl⟩))
    (pg_tup rfl (pgs_cons (pg_name (i := 3) sc_lifted_nodes.nd rfl (.inl rfl)) (pgs_cons (pg_name (i := 4) sc_lifted_nodes.nd rfl (.inl rfl)) pgs_nil))) rfl rfl (fun L i hi => ⟨_, tg_two 3 4, ?_⟩) ?_
  · rw [encs_len, intsD_len, arnd_tot hl, Nat.min_self] at hi
    obtain ⟨n, hn⟩ := get_lt hi
    obtain ⟨a, ha⟩ := get_lt (l := arnd [0] l) (i := i) (by rw [arnd_tot hl]; exact hi)
    rw [encs_getD hn, intsD_getD ha]
    have hk : (liftL m l)[i]? = some (liftN m n a) := zw_get hn ha
    have step : encs ((liftL m l).take (i + 1)) = encs ((liftL m l).take i) ++ [(liftN m n a).enc] := by rw [take_succ' hk, encs_app]; rfl
    have hlen : ((encs ((liftL m l).take i)).map Lo.d).length < 100000 := by
      rw [List.length_map, encs_len, List.length_take]
      have := liftL_len (m := m) hl
      omega
    refine go_append 0 2 (ed_v 2) rfl (l := .d (liftN m n a).enc) ?_ hlen ?_
    rotate_left
    · refine go_turnW ?_ (by repeat' (first | exact Paired.nil | refine Paired.cons (.inr rfl) ?_ | refine Paired.cons (.inl rfl) ?_))
      rw [step, List.map_append]
      rfl
    rcases name_or n with ⟨k, rfl⟩ | ⟨h1, h2, _⟩
    · by_cases c : a ≤ k
      · rw [show liftN m (.name k) a = .name (k + m) from if_pos c]
        refine ed_ifT (et_b (et_and (et_eqS (ed_word (ed_v 3)) (ed_gs (c_NAME T))) fun _ => et_ge (ed_ixT (ed_v 3) ed_int) (ed_v 4)) (k' := true) ?_) rfl ?_
        · rw [decide_eq_true (by omega : (a : Int) ≤ (k : Int))]
          exact (show (decide (("name" : Str) = "name") && true) = true by decide +kernel)
        · exact ed_tup (ds := [.str "name", .int ((k : Int) + m)]) (ea_cons (ed_gs (c_NAME T)) (ea_cons (ed_add (ed_ixT (ed_v 3) ed_int) (ed_v 1)) ea_nil))
      · rw [show liftN m (.name k) a = .name k from if_neg c]
        refine ed_ifF (et_b (et_and (et_eqS (ed_word (ed_v 3)) (ed_gs (c_NAME T))) fun _ => et_ge (ed_ixT (ed_v 3) ed_int) (ed_v 4)) (k' := false) ?_) rfl (ed_v 3)
        rw [decide_eq_false (by omega : ¬ (a : Int) ≤ (k : Int)), Bool.and_false]
    · rw [h2]
      exact ed_ifF (et_b (et_and (k' := false) (et_eqS (ed_word (ed_v 3)) (ed_gs (c_NAME T))) fun q => by rw [h1] at q; cases q) (k' := false) (by rw [Bool.and_false])) rfl (ed_v 3)
  · rw [encs_len, intsD_len, arnd_tot hl, Nat.min_self]
    have e : (liftL m l).take l.length = liftL m l := List.take_of_length_le (by rw [liftL_len hl]; exact Nat.le_refl _)
    rw [e]
    refine go_freeze 0 2 hp ?_
    exact go_ret (ed_v 2) hq
/-! ## nodes_put -/
theorem flatten_take {α : Type} {ls : List (List α)} {i : Nat} {x : List α} (h : ls[i]? = some x) : (ls.take (i + 1)).flatten = (ls.take i).flatten ++ x := by
  rw [take_succ' h, List.flatten_append]
  simp
theorem putN_len {o : List Nd} {n : Nd} {a : Nat} (ho : OkA o) (h1 : 1 ≤ o.length) : (putN o n a).length ≤ o.length := by
  cases n with
  | name k =>
    show (if k < a then [Nd.name k] else if k = a then liftL a o else [Nd.name (k - 1)]).length ≤ o.length
    split
    · exact h1
    · split
      · rw [liftL_len ho]; exact Nat.le_refl _
      · exact h1
  | _ => exact h1
theorem flat_bound {ls : List (List Nd)} {b : Nat} (h : ∀ x ∈ ls, x.length ≤ b) : ls.flatten.length ≤ ls.length * b := by
  induction ls with
  | nil => simp
  | cons x r ih =>
    have h1 := h x List.mem_cons_self
    have h2 := ih fun y hy => h y (List.mem_cons_of_mem _ hy)
    rw [List.flatten_cons, List.length_append, List.length_cons, Nat.succ_mul]
    omega
def R_put : List PyData → PyData → Prop := fun ds d => ∃ l o, ds = [.list (encs l), .list (encs o)] ∧ OkA l ∧ OkA o ∧ l.length ≤ 300 ∧ o.length ≤ 300 ∧ 1 ≤ o.length ∧ d = .list (encs (putL o l))
theorem d_nodes_put (T : Tx w K mg) : Def P w K mg base CX0 "nodes_put" 3 ["nodes", "other"] (spR K R_put) := by
  refine def_R (f_nodes_put T) (g_nodes_put T) sc_nodes_put (fun _ _ _ _ _ _ us hl => match us, hl with | [_, _], _ => rfl) (fun ds d h => by obtain ⟨l, o, rfl, hl, ho, hz, hz2, hz3, rfl⟩ := h; rfl) fun cdv A outer s H E hr ds d h O D hD hq => ?_
  obtain ⟨l, o, rfl, hl, ho, hz, hz2, hz3, rfl⟩ := h
  refine go_asgL 2 sc_nodes_put.nd (el_lst (ls := []) ea_nil) fun p hp => ?_
  refine go_for (fun i => [(p, .lst ((encs ((List.zipWith (putN o) l (arnd [0] l)).take i).flatten).map .d))]) (fun i => [.d (.list (encs l)), .d (.list (encs o)), .v (.ref p), .no, .no])
    (it_zip (b_zip T) (ed_v 0) (ed_callR (ds := [.list (encs l)]) ((d_binders_around T).up (by decide)) hr (ea_cons (ed_v 0) ea_nil) ⟨l, rfl, hl, by omega, rfl⟩))
    (pg_tup rfl (pgs_cons (pg_name (i := 3) sc_nodes_put.nd rfl (.inl rfl)) (pgs_cons (pg_name (i := 4) sc_nodes_put.nd rfl (.inl rfl)) pgs_nil))) rfl rfl (fun L i hi => ⟨_, tg_two 3 4, ?_⟩) ?_
  · rw [encs_len, intsD_len, arnd_tot hl, Nat.min_self] at hi
    obtain ⟨n, hn⟩ := get_lt hi
    obtain ⟨a, ha⟩ := get_lt (l := arnd [0] l) (i := i) (by rw [arnd_tot hl]; exact hi)
    rw [encs_getD hn, intsD_getD ha]
    have hk : (List.zipWith (putN o) l (arnd [0] l))[i]? = some (putN o n a) := zw_get hn ha
    have step : encs ((List.zipWith (putN o) l (arnd [0] l)).take (i + 1)).flatten = encs ((List.zipWith (putN o) l (arnd [0] l)).take i).flatten ++ encs (putN o n a) := by rw [flatten_take hk, encs_app]
    have hlen : ((encs ((List.zipWith (putN o) l (arnd [0] l)).take i).flatten).map Lo.d).length ≤ 90000 := by
      rw [List.length_map, encs_len]
      have h1 := flat_bound (ls := (List.zipWith (putN o) l (arnd [0] l)).take i) (b := o.length) (fun x hx => by
        obtain ⟨j, hj⟩ := List.getElem?_of_mem (List.mem_of_mem_take hx)
        have hj2 : j < l.length := by
          have := (List.getElem?_eq_some_iff.mp hj).1
          rw [List.length_zipWith, arnd_tot hl, Nat.min_self] at this
          exact this
        obtain ⟨n2, hn2⟩ := get_lt hj2
        obtain ⟨a2, ha2⟩ := get_lt (l := arnd [0] l) (i := j) (by rw [arnd_tot hl]; exact hj2)
        rw [zw_get hn2 ha2] at hj
        cases hj
        exact putN_len ho hz3)
      have h2 : ((List.zipWith (putN o) l (arnd [0] l)).take i).length ≤ 300 := by rw [List.length_take, List.length_zipWith, arnd_tot hl, Nat.min_self]; omega
      have h3 : ((List.zipWith (putN o) l (arnd [0] l)).take i).length * o.length ≤ 300 * 300 := Nat.mul_le_mul h2 hz2
      omega
    have ends : ∀ x, putN o n a = [x] → (encs ((List.zipWith (putN o) l (arnd [0] l)).take i).flatten).map Lo.d ++ [Lo.d x.enc] = (encs ((List.zipWith (putN o) l (arnd [0] l)).take (i + 1)).flatten).map Lo.d := fun x hx => by
      rw [step, hx, List.map_append]
      rfl
    rcases name_or n with ⟨k, rfl⟩ | ⟨h1, _, h2⟩
    · by_cases c : k < a
      · refine go_take (et_b (et_or (et_b (k' := false) (et_neS (ed_word (ed_v 3)) (ed_gs (c_NAME T)))) fun _ => et_lt (ed_ixT (ed_v 3) ed_int) (ed_v 4)) (by rw [decide_eq_true (by omega : (k : Int) < (a : Int))]; rfl)) ?_
        refine go_append 0 2 (ed_v 2) rfl (ed_v 3) (by omega) (go_thn (go_turnW ?_ (by repeat' (first | exact Paired.nil | refine Paired.cons (.inr rfl) ?_ | refine Paired.cons (.inl rfl) ?_))))
        rw [← ends _ (if_pos c)]
        rfl
      · refine go_if (k := false) (et_b (et_or (et_b (k' := false) (et_neS (ed_word (ed_v 3)) (ed_gs (c_NAME T)))) fun _ => et_lt (ed_ixT (ed_v 3) ed_int) (ed_v 4)) (by rw [decide_eq_false (by omega : ¬ (k : Int) < (a : Int))]; rfl)) (fun q => by cases q) fun _ => ?_
        by_cases c2 : k = a
        · subst c2
          refine go_take (et_b (et_eqI (ed_ixT (ed_v 3) ed_int) (ed_v 4)) (decide_eq_true rfl)) ?_
          refine go_extend 0 2 (ed_v 2) rfl (ed_callR (ds := [.list (encs o), .int k]) (d_lifted_nodes T) hr (ea_cons (ed_v 1) (ea_cons (ed_v 4) ea_nil)) ⟨o, k, rfl, ho, by omega, rfl⟩) (by rw [encs_len, liftL_len ho]; omega) (go_thn (go_thn (go_turnW ?_ (by repeat' (first | exact Paired.nil | refine Paired.cons (.inr rfl) ?_ | refine Paired.cons (.inl rfl) ?_)))))
          rw [step, show putN o (.name k) k = liftL k o from by show (if k < k then _ else if k = k then _ else _) = _; rw [if_neg c, if_pos rfl], List.map_append]
          rfl
        · refine go_if (k := false) (et_b (et_eqI (ed_ixT (ed_v 3) ed_int) (ed_v 4)) (decide_eq_false (by omega))) (fun q => by cases q) fun _ => ?_
          refine go_append 0 2 (ed_v 2) rfl (l := .d (.tuple [.str "name", .int ((k : Int) - 1)])) (ed_tup (ds := [.str "name", .int ((k : Int) - 1)]) (ea_cons (ed_gs (c_NAME T)) (ea_cons (ed_sub (ed_ixT (ed_v 3) ed_int) ed_int) ea_nil))) (by omega) (go_thn (go_thn (go_turnW ?_ (by repeat' (first | exact Paired.nil | refine Paired.cons (.inr rfl) ?_ | refine Paired.cons (.inl rfl) ?_)))))
          rw [← ends (.name (k - 1)) (by show (if k < a then _ else if k = a then _ else _) = _; rw [if_neg c, if_neg c2])]
          have e : ((k : Int) - 1) = ((k - 1 : Nat) : Int) := by omega
          rw [e]
          rfl
    · refine go_take (et_b (et_or (k := true) (k' := true) (et_b (et_neS (ed_word (ed_v 3)) (ed_gs (c_NAME T))) (by rw [h1]; rfl)) (fun q => by cases q))) ?_
      refine go_append 0 2 (ed_v 2) rfl (ed_v 3) (by omega) (go_thn (go_turnW ?_ (by repeat' (first | exact Paired.nil | refine Paired.cons (.inr rfl) ?_ | refine Paired.cons (.inl rfl) ?_))))
      rw [← ends _ (h2 o a)]
      rfl
  · rw [encs_len, intsD_len, arnd_tot hl, Nat.min_self]
    have e : (List.zipWith (putN o) l (arnd [0] l)).take l.length = List.zipWith (putN o) l (arnd [0] l) := List.take_of_length_le (by rw [List.length_zipWith, arnd_tot hl, Nat.min_self]; exact Nat.le_refl _)
    rw [e]
    refine go_freeze 0 2 hp ?_
    exact go_ret (ed_v 2) hq
end
end K32

set_option maxRecDepth 100000
set_option maxHeartbeats 4000000
namespace K32
open PySem L2
section
variable {X : Cx} {O : Og} {M : Owns} {ρ : List Lo} {a : Expr} {pos p1 : Pos}
theorem ed_neg {i : Int} (h : Ed X O M ρ a (.d (.int i))) : Ed X O M ρ (.UnaryOp .USub a pos) (.d (.int (-i))) := fun B σ H S Q q => wE_of (pe_un un_neg pe_w) (h B σ H S _ fun v B1 H1 e1 S1 r => by
  cases r
  exact ⟨i, rfl, q _ B1 H1 e1 S1 (.int _)⟩)
end
theorem endsF_step {l : List Nd} {q : Nat} {n : Nd} (h : l[q]? = some n) : endsF q (l.drop q) = ((popN n.binds.length (q + 1) (endsF (q + 1) (l.drop (q + 1))).2).1 :: (endsF (q + 1) (l.drop (q + 1))).1, (popN n.binds.length (q + 1) (endsF (q + 1) (l.drop (q + 1))).2).1 :: (popN n.binds.length (q + 1) (endsF (q + 1) (l.drop (q + 1))).2).2) := by
  rw [drop_cons h]
  rfl
/-- the ends so far, behind i turns -/
def fnd (l : List Nd) (s : Nat) : List Nat := List.replicate s 0 ++ (endsF s (l.drop s)).1
theorem fnd_len {l : List Nd} {s : Nat} (h : s ≤ l.length) : (fnd l s).length = l.length := by
  unfold fnd
  rw [List.length_append, List.length_replicate, endsF_len, List.length_drop]
  omega
theorem fnd_set {l : List Nd} {q e : Nat} {n : Nd} (h : l[q]? = some n) (he : (popN n.binds.length (q + 1) (endsF (q + 1) (l.drop (q + 1))).2).1 = e) : (fnd l (q + 1)).set q e = fnd l q := by
  unfold fnd
  rw [endsF_step h, he, List.replicate_succ', List.append_assoc, List.set_append]
  rw [List.length_replicate, if_neg (by omega), Nat.sub_self]
  rfl
section
variable {P : Program} {w : World} {K : PySem.W.Frag} {mg : Str → Option Value} {base : Heap}
def R_ends : List PyData → PyData → Prop := fun ds d => ∃ l, ds = [.list (encs l)] ∧ OkE l ∧ l.length ≤ 1000 ∧ d = .list (intsD (ends l))
theorem d_ends_of (T : Tx w K mg) : Def P w K mg base CX0 "ends_of" 1 ["nodes"] (spR K R_ends) := by
  refine def_R (f_ends_of T) (g_ends_of T) sc_ends_of (fun _ _ _ _ _ _ us hl => match us, hl with | [_], _ => rfl) (fun ds d h => by obtain ⟨l, rfl, hl, hz, rfl⟩ := h; rfl) fun cdv A outer s H E hr ds d h O D hD hq => ?_
  obtain ⟨l, rfl, hl, hz, rfl⟩ := h
  refine go_par2 2 3 sc_ends_of.nd (ac_l (el_lc 1 (ls := fun _ => .d (.int 0)) rfl sc_ends_of.nd (it_list (ed_v 0)) (blkOk_by (N := N_ends_of) (sc := defScope s_ends_of) (own := [("node", 1)]) (by decide +kernel)) (fun _ _ _ _ _ => pg_name (i := 1) sc_ends_of.nd rfl (.inl rfl))
    (by rw [encs_len]; omega) (fun L p w' k hk s' H' C' cl fp => ed_int)) fun p hp => ac_l (el_lst (ls := []) ea_nil) fun r hr' => ac_nil) ?_
  rintro M' ls ⟨p, r, hp, rfl, r2, _, hr2, rfl, rfl, rfl⟩
  refine ⟨_, _, rfl, ?_⟩
  have e0 : (List.range (encs l).length).map (fun _ => Lo.d (.int 0)) = (intsD (fnd l l.length)).map .d := by
    unfold fnd
    rw [List.drop_length, encs_len]
    show _ = (intsD (List.replicate l.length 0 ++ [])).map Lo.d
    rw [List.append_nil]
    unfold intsD
    rw [List.map_replicate, List.map_replicate, List.map_const', List.length_range]
    rfl
  refine go_for (fun i => [(r2, .lst ((intsD (endsF (l.length - i) (l.drop (l.length - i))).2.reverse).map .d)), (p, .lst ((intsD (fnd l (l.length - i))).map .d))]) (fun i => [.d (.list (encs l)), .no, .v (.ref p), .v (.ref r2), .no, .no, .no])
    (it_rangeDown (b_range T) (ed_sub (ed_lenL (b_len T) (ed_v 0)) ed_int) (ed_neg ed_int) (ed_neg ed_int) (by rw [encs_len]; omega) (by rw [encs_len]; omega) (by decide) (by decide)) (pg_name (i := 4) sc_ends_of.nd rfl (.inl rfl)) ?_ rfl (fun L i hi => ⟨_, tg_name 4, ?_⟩) ?_
  · rw [e0, Nat.sub_zero, List.drop_length]
    rfl
  · have hi' : i < l.length := by rw [encs_len] at hi; omega
    obtain ⟨q, hq1⟩ : ∃ q, q + 1 = l.length - i := ⟨l.length - i - 1, by omega⟩
    have hq2 : l.length - (i + 1) = q := by omega
    have hq3 : (((encs l).length : Int) - 1) - (i : Int) = (q : Int) := by rw [encs_len]; omega
    obtain ⟨n, hn⟩ := get_lt (l := l) (i := q) (by omega)
    rw [hq3, hq2, ← hq1]
    have hE := hl q n hn
    have hs := endsF_stk (l.drop (q + 1)) (q + 1)
    rw [List.length_drop] at hs
    generalize hst : (endsF (q + 1) (l.drop (q + 1))).2 = stk at *
    refine go_asg 5 sc_ends_of.nd (ed_add (ed_v 4) ed_int) ?_
    refine go_for (fun k => [(r2, .lst ((intsD (popN k (q + 1) stk).2.reverse).map .d)), (p, .lst ((intsD (fnd l (q + 1))).map .d))]) (fun k => [.d (.list (encs l)), .no, .v (.ref p), .v (.ref r2), .d (.int q), .d (.int ((popN k (q + 1) stk).1 : Nat)), .no])
      (it_tup (ed_binds T (ed_word (ed_ixL (ed_v 0) (ed_v 4) (atI_nat (encs_get hn)))))) (pg_name (i := 6) sc_ends_of.nd rfl (.inl rfl)) rfl (by
        show [_, _, _, _, _, Lo.d (PyData.int ((q : Int) + 1)), _] = _
        rw [show ((q : Int) + 1) = ((q + 1 : Nat) : Int) by omega]
        rfl) (fun L k hk => ⟨_, tg_name 6, ?_⟩) ?_
    · rw [intsD_len] at hk
      obtain ⟨a, rr, h1, h2⟩ := popN_succ (k := k) (e := q + 1) (st := stk) (by omega)
      rw [h2, h1]
      refine go_pop 0 5 (l := .d (.int a)) (ls := (intsD rr.reverse).map .d) sc_ends_of.nd (ed_v 3) (by rw [List.reverse_cons, intsD_app, List.map_append]; rfl) ?_
      exact go_turnW rfl (by repeat' (first | exact Paired.nil | refine Paired.cons (.inr rfl) ?_ | refine Paired.cons (.inl rfl) ?_))
    · rw [intsD_len]
      have hp2 := popN_le n.binds.length (q + 1) stk
      refine go_setItem 1 (q := q) (ed_v 5) (ed_v 2) rfl (ed_v 4) (by rw [List.length_map, intsD_len, fnd_len (by omega)]; omega) ?_
      refine go_append 0 3 (ed_v 3) rfl (ed_v 5) (by rw [List.length_map, intsD_len, List.length_reverse]; omega) ?_
      refine go_turnW ?_ (by repeat' (first | exact Paired.nil | refine Paired.cons (.inr rfl) ?_ | refine Paired.cons (.inl rfl) ?_))
      have e1 : ((intsD (fnd l (q + 1))).map Lo.d).set q (Lo.d (.int ((popN n.binds.length (q + 1) stk).1 : Nat))) = (intsD (fnd l q)).map .d := by
        rw [← fnd_set hn (by rw [hst])]
        unfold intsD
        rw [List.map_map, List.map_map, List.map_set]
        rfl
      have e2 : (intsD (endsF q (l.drop q)).2.reverse).map Lo.d = (intsD (popN n.binds.length (q + 1) stk).2.reverse).map Lo.d ++ [Lo.d (.int ((popN n.binds.length (q + 1) stk).1 : Nat))] := by
        rw [endsF_step hn, hst]
        dsimp only
        rw [List.reverse_cons, intsD_app, List.map_append]
        rfl
      rw [e2]
      show [(r2, _), (p, Own.lst (((intsD (fnd l (q + 1))).map Lo.d).set q _))] = _
      rw [e1]
  · have e3 : (((encs l).length : Int) - 1 - -1).toNat = l.length := by rw [encs_len]; omega
    rw [e3, Nat.sub_self]
    refine go_freeze 1 2 hp ?_ rfl
    exact go_ret (ed_is (ed_v 2) (by show Lo.d (.list (intsD (fnd l 0))) = _; rfl)) hq
end
end K32

set_option maxRecDepth 100000
set_option maxHeartbeats 4000000
namespace K32
open PySem L2
def encRow : List Kd → PyData
  | [] => .none
  | k :: r => .tuple [k.enc, encRow r]
theorem eqk (a b : Kd) (h : a.deep ≤ 170) : EqOk a.enc b.enc := ⟨a.lay, b.lay, .inl (by have := a.dep; omega)⟩
section
variable {P : Program} {w : World} {K : PySem.W.Frag} {mg : Str → Option Value} {base : Heap}
def R_row : List PyData → PyData → Prop := fun ds d => ds = [.list []] ∧ d = .none
theorem d_row_of (T : Tx w K mg) : Def P w K mg base CX0 "row_of" 1 ["names"] (spR K R_row) := by
  refine def_R (f_row_of T) (g_row_of T) sc_row_of (fun _ _ _ _ _ _ us hl => match us, hl with | [_], _ => rfl) (fun ds d h => by obtain ⟨rfl, rfl⟩ := h; rfl) fun cdv A outer s H E hr ds d h O D hD hq => ?_
  obtain ⟨rfl, rfl⟩ := h
  refine go_asg 1 sc_row_of.nd ed_non ?_
  refine go_for (fun _ => []) (fun _ => [.d (.list []), .d .none, .no]) (it_list (El.ed (el_revL (ed_v 0)))) (pg_name (i := 2) sc_row_of.nd rfl (.inl rfl)) rfl rfl (fun L i hi => by simp at hi) ?_
  exact go_ret (ed_v 1) hq
def R_kin : List PyData → PyData → Prop := fun ds d => ∃ (Γ : List Kd) (i : Nat) (k : Kd), ds = [encRow Γ, .int i] ∧ Γ[i]? = some k ∧ i ≤ 1000 ∧ d = k.enc
theorem encRow_drop {Γ : List Kd} {i : Nat} {k : Kd} (h : Γ[i]? = some k) : encRow (Γ.drop i) = .tuple [k.enc, encRow (Γ.drop (i + 1))] := by
  rw [drop_cons h]
  rfl
theorem d_kind_in (T : Tx w K mg) : Def P w K mg base CX0 "kind_in" 1 ["row", "out"] (spR K R_kin) := by
  refine def_R (f_kind_in T) (g_kind_in T) sc_kind_in (fun _ _ _ _ _ _ us hl => match us, hl with | [_, _], _ => rfl) (fun ds d h => by obtain ⟨Γ, i, k, rfl, hk, hi, rfl⟩ := h; rfl) fun cdv A outer s H E hr ds d h O D hD hq => ?_
  obtain ⟨Γ, i, k, rfl, hk, hi, rfl⟩ := h
  refine go_asg 2 sc_kind_in.nd (ed_v 0) ?_
  refine go_for (fun _ => []) (fun j => [.d (encRow Γ), .d (.int i), .d (encRow (Γ.drop j)), .no]) (it_range1 (b_range T) (ed_v 1) (by omega) (by omega)) (pg_name (i := 3) sc_kind_in.nd rfl (.inl rfl)) rfl rfl (fun L j hj => ⟨_, tg_name 3, ?_⟩) ?_
  · have hj' : j < i := by omega
    have hl := (List.getElem?_eq_some_iff.mp hk).1
    obtain ⟨k1, hk1⟩ := get_lt (l := Γ) (i := j) (by omega)
    rw [encRow_drop hk1]
    refine go_skip (et_b (et_isNone (ed_v 2)) rfl) ?_
    refine go_asg 2 sc_kind_in.nd (ed_ixT (ed_v 2) ed_int) ?_
    exact go_turnW rfl
  · rw [Int.toNat_natCast, encRow_drop hk]
    exact go_ret (ed_ifF (et_isNone (ed_v 2)) rfl (ed_ixT (ed_v 2) ed_int)) hq
def R_leaf2 : List PyData → PyData → Prop := fun ds d => ∃ (Γ : List Kd) (n : Nd) (k : Kd), ds = [n.enc, encRow Γ] ∧ ((∃ i, n = .name i ∧ Γ[i]? = some k ∧ i ≤ 1000) ∨ (∃ i, n = .told i ∧ k = .cnt)) ∧ d = k.enc
theorem d_kind_of_leaf (T : Tx w K mg) : Def P w K mg base CX0 "kind_of_leaf" 2 ["node", "row"] (spR K R_leaf2) := by
  refine def_R (f_kind_of_leaf T) (g_kind_of_leaf T) sc_kind_of_leaf (fun _ _ _ _ _ _ us hl => match us, hl with | [_, _], _ => rfl) (fun ds d h => by obtain ⟨Γ, n, k, rfl, hn, rfl⟩ := h; rfl) fun cdv A outer s H E hr ds d h O D hD hq => ?_
  obtain ⟨Γ, n, k, rfl, hn, rfl⟩ := h
  rcases hn with ⟨i, rfl, hk, hi⟩ | ⟨i, rfl, rfl⟩
  · exact go_ret (ed_ifT (et_eqS (ed_word (n := .name i) (ed_v 0)) (ed_gs (c_NAME T))) rfl (ed_callR (ds := [encRow Γ, .int i]) (d_kind_in T) hr (ea_cons (ed_v 1) (ea_cons (ed_ixT (ds := [.str "name", .int i]) (ed_v 0) ed_int) ea_nil)) ⟨Γ, i, k, rfl, hk, hi, rfl⟩)) hq
  · exact go_ret (ed_ifF (et_eqS (ed_word (n := .told i) (ed_v 0)) (ed_gs (c_NAME T))) rfl (ed_number T)) hq
def R_part : List PyData → PyData → Prop := fun ds d => ∃ (a b : Kd) (f : Bool), ds = [.str (if f then "first" else "second"), (Kd.pr a b).enc] ∧ d = (if f then a else b).enc
theorem d_kind_of_part (T : Tx w K mg) : Def P w K mg base CX0 "kind_of_part" 1 ["word", "one"] (spR K R_part) := by
  refine def_R (f_kind_of_part T) (g_kind_of_part T) sc_kind_of_part (fun _ _ _ _ _ _ us hl => match us, hl with | [_, _], _ => rfl) (fun ds d h => by obtain ⟨a, b, f, rfl, rfl⟩ := h; rfl) fun cdv A outer s H E hr ds d h O D hD hq => ?_
  obtain ⟨a, b, f, rfl, rfl⟩ := h
  refine go_skip (et_b (et_neS (ed_ixT (ds := [.str "pair", a.enc, b.enc]) (ed_v 1) ed_int) (ed_gs (c_PAIR T))) rfl) ?_
  cases f
  · exact go_ret (ed_ifF (et_eqS (ed_v 0) ed_str) rfl (ed_ixT (ds := [.str "pair", a.enc, b.enc]) (ed_v 1) ed_int)) hq
  · exact go_ret (ed_ifT (et_eqS (ed_v 0) ed_str) rfl (ed_ixT (ds := [.str "pair", a.enc, b.enc]) (ed_v 1) ed_int)) hq
def R_kcall : List PyData → PyData → Prop := fun ds d => ∃ (a b : Kd), ds = [(Kd.fn a b).enc, a.enc] ∧ a.deep ≤ 100 ∧ d = b.enc
theorem d_kind_of_call (T : Tx w K mg) : Def P w K mg base CX0 "kind_of_call" 1 ["one", "other"] (spR K R_kcall) := by
  refine def_R (f_kind_of_call T) (g_kind_of_call T) sc_kind_of_call (fun _ _ _ _ _ _ us hl => match us, hl with | [_, _], _ => rfl) (fun ds d h => by obtain ⟨a, b, rfl, ha, rfl⟩ := h; rfl) fun cdv A outer s H E hr ds d h O D hD hq => ?_
  obtain ⟨a, b, rfl, ha, rfl⟩ := h
  refine go_ret (ed_ifT (et_and (et_b (k' := true) (et_eqS (ed_ixT (ds := [.str "fun", a.enc, b.enc]) (ed_v 0) ed_int) (ed_gs (c_FUN T))) rfl) fun _ => et_b (k' := true) (et_eq hr.r64 (ed_ixT (ds := [.str "fun", a.enc, b.enc]) (ed_v 0) ed_int) (ed_v 1) (eqk a a (by omega))) (by rw [Kd.eqv]; simp)) rfl (ed_ixT (ds := [.str "fun", a.enc, b.enc]) (ed_v 0) ed_int)) hq
/-- the kinds of the parts, in an own list -/
def kl (ks : List Kd) : List Lo := (ks.map Kd.enc).map .d
def R_kturns : Owns → List Lo → Post → Prop := fun M ls Po => ∃ (p : Addr) (A : Kd), M = [(p, .lst (kl [.cnt, A, A]))] ∧ ls = [.d A.enc, .v (.ref p)] ∧ A.deep ≤ 100 ∧ Po = fun M' l => M' = M ∧ l = .d A.enc
theorem lay_ks (ks : List Kd) : (PyData.list (ks.map Kd.enc)).canLay0 = true := lay_list (lay_all Kd.lay ks)
theorem eq_ks (ks js : List Kd) (h : ∀ k ∈ js, k.deep ≤ 170) : EqOk (.list (ks.map Kd.enc)) (.list (js.map Kd.enc)) := ⟨lay_ks ks, lay_ks js, .inr (by
  have := dep_all (f := Kd.enc) (n := 171) js fun k hk => by have := h k hk; have := k.dep; omega
  simp only [PyData.depth]
  omega)⟩
theorem eqv_ks (ks js : List Kd) : PyData.eqv (.list (ks.map Kd.enc)) (.list (js.map Kd.enc)) = decide (ks = js) := by
  simp only [PyData.eqv]
  exact eqv_all Kd.eqv ks js
theorem d_kind_of_turns (T : Tx w K mg) : Def P w K mg base CX0 "kind_of_turns" 1 ["kind", "some"] (spO K R_kturns) := by
  refine def_O (f_kind_of_turns T) (g_kind_of_turns T) sc_kind_of_turns (fun _ _ _ _ _ _ us hl => match us, hl with | [_, _], _ => rfl) (fun M ls Po h => by obtain ⟨p, A, rfl, rfl, hA, rfl⟩ := h; rfl) fun cdv A outer s H E hr M ls Po h O D hD hq => ?_
  obtain ⟨p, A, rfl, rfl, hA, rfl⟩ := h
  refine go_retX (Ed.ex (ed_ifT (et_eqO (ds := [Kd.cnt, A, A].map Kd.enc) hr.r64 (ed_v 1) List.mem_cons_self (ed_lst (ds := [Kd.cnt, A, A].map Kd.enc) (ea_cons (ed_number T) (ea_cons (ed_v 0) (ea_cons (ed_v 0) ea_nil)))) (eq_ks _ _ (by
    intro k hk
    have : k = .cnt ∨ k = A := by simpa using hk
    rcases this with rfl | rfl
    · simp [Kd.deep]
    · omega))) (by rw [eqv_ks]; simp) (ed_v 0))) (hq.imp fun M' l h => ?_)
  obtain ⟨rfl, rfl⟩ := h
  exact ⟨rfl, rfl⟩
end
end K32

set_option maxRecDepth 100000
set_option maxHeartbeats 4000000
namespace K32
open PySem L2
theorem kb_fn {A k : Kd} {ks : List Kd} (h : kindBy (.fn A) ks = some k) : ∃ b, ks = [b] ∧ k = .fn A b ∧ (Kd.fn A b).ok = true := by
  match ks, h with
  | [b], h =>
    have h : (if (Kd.fn A b).ok = true then some (Kd.fn A b) else none) = some k := h
    by_cases q : (Kd.fn A b).ok = true
    · rw [if_pos q] at h; cases h; exact ⟨b, rfl, rfl, q⟩
    · rw [if_neg q] at h; cases h
  | [], h => cases h
  | _ :: _ :: _, h => cases h
theorem kb_both {k : Kd} {ks : List Kd} (h : kindBy .both ks = some k) : ∃ a b, ks = [a, b] ∧ k = .pr a b ∧ (Kd.pr a b).ok = true := by
  match ks, h with
  | [a, b], h =>
    have h : (if (Kd.pr a b).ok = true then some (Kd.pr a b) else none) = some k := h
    by_cases q : (Kd.pr a b).ok = true
    · rw [if_pos q] at h; cases h; exact ⟨a, b, rfl, rfl, q⟩
    · rw [if_neg q] at h; cases h
  | [], h => cases h
  | [_], h => cases h
  | _ :: _ :: _ :: _, h => cases h
theorem kb_left {B k : Kd} {ks : List Kd} (h : kindBy (.left B) ks = some k) : ∃ a, ks = [a] ∧ k = .sm a B ∧ (Kd.sm a B).ok = true := by
  match ks, h with
  | [b], h =>
    have h : (if (Kd.sm b B).ok = true then some (Kd.sm b B) else none) = some k := h
    by_cases q : (Kd.sm b B).ok = true
    · rw [if_pos q] at h; cases h; exact ⟨b, rfl, rfl, q⟩
    · rw [if_neg q] at h; cases h
  | [], h => cases h
  | _ :: _ :: _, h => cases h
theorem kb_right {A k : Kd} {ks : List Kd} (h : kindBy (.right A) ks = some k) : ∃ b, ks = [b] ∧ k = .sm A b ∧ (Kd.sm A b).ok = true := by
  match ks, h with
  | [b], h =>
    have h : (if (Kd.sm A b).ok = true then some (Kd.sm A b) else none) = some k := h
    by_cases q : (Kd.sm A b).ok = true
    · rw [if_pos q] at h; cases h; exact ⟨b, rfl, rfl, q⟩
    · rw [if_neg q] at h; cases h
  | [], h => cases h
  | _ :: _ :: _, h => cases h
theorem kb_call {k : Kd} {ks : List Kd} (h : kindBy .call ks = some k) : ∃ a, ks = [.fn a k, a] := by
  match ks, h with
  | [.fn A B, a], h =>
    have h : (if A = a then some B else none) = some k := h
    by_cases q : A = a
    · rw [if_pos q] at h; cases h; subst q; exact ⟨A, rfl⟩
    · rw [if_neg q] at h; cases h
theorem kb_first {k : Kd} {ks : List Kd} (h : kindBy .first ks = some k) : ∃ b, ks = [.pr k b] := by
  match ks, h with
  | [.pr a b], h => cases h; exact ⟨b, rfl⟩
theorem kb_second {k : Kd} {ks : List Kd} (h : kindBy .second ks = some k) : ∃ a, ks = [.pr a k] := by
  match ks, h with
  | [.pr a b], h => cases h; exact ⟨a, rfl⟩
theorem kb_which {k : Kd} {ks : List Kd} (h : kindBy .which ks = some k) : ∃ a b, ks = [.sm a b, k, k] := by
  match ks, h with
  | [.sm a b, l, r], h =>
    have h : (if l = r then some l else none) = some k := h
    by_cases q : l = r
    · rw [if_pos q] at h; cases h; subst q; exact ⟨a, b, rfl⟩
    · rw [if_neg q] at h; cases h
theorem kb_next {k : Kd} {ks : List Kd} (h : kindBy .next ks = some k) : ks = [.cnt] ∧ k = .cnt := by
  match ks, h with
  | [.cnt], h => cases h; exact ⟨rfl, rfl⟩
theorem kb_turns {A k : Kd} {ks : List Kd} (h : kindBy (.turns A) ks = some k) : ks = [.cnt, A, A] ∧ k = A := by
  match ks, h with
  | [.cnt, u, s], h =>
    have h : (if u = A ∧ s = A then some A else none) = some k := h
    by_cases q : u = A ∧ s = A
    · rw [if_pos q] at h; cases h; obtain ⟨rfl, rfl⟩ := q; exact ⟨rfl, rfl⟩
    · rw [if_neg q] at h; cases h
theorem kb_lt {k : Kd} {ks : List Kd} (h : kindBy .lt ks = some k) : ∃ a, ks = [a, k] := by
  match ks, h with
  | [a, b], h => cases h; exact ⟨a, rfl⟩
def Nd.few : Nd → Bool
  | .call | .first | .second | .which | .next | .turns _ | .lt => true
  | _ => false
theorem kl_at {ks : List Kd} {i : Nat} {k : Kd} (h : ks[i]? = some k) : atI (kl ks) (i : Int) = some (.d k.enc) := atI_nat (by unfold kl; rw [List.getElem?_map, List.getElem?_map, h]; rfl)
section
variable {P : Program} {w : World} {K : PySem.W.Frag} {mg : Str → Option Value} {base : Heap}
def R_kfew : Owns → List Lo → Post → Prop := fun M ls Po => ∃ (p : Addr) (n : Nd) (ks : List Kd) (k : Kd), M = [(p, .lst (kl ks))] ∧ ls = [.d n.enc, .v (.ref p)] ∧ kindBy n ks = some k ∧ (∀ k ∈ ks, k.deep ≤ 100) ∧ n.few = true ∧ Po = fun M' l => M' = M ∧ l = .d k.enc
theorem d_kind_of_few (T : Tx w K mg) : Def P w K mg base CX0 "kind_of_few" 2 ["node", "some"] (spO K R_kfew) := by
  refine def_O (f_kind_of_few T) (g_kind_of_few T) sc_kind_of_few (fun _ _ _ _ _ _ us hl => match us, hl with | [_, _], _ => rfl) (fun M ls Po h => by obtain ⟨p, n, ks, k, rfl, rfl, hk, hd, hn, rfl⟩ := h; rfl) fun cdv A outer s H E hr M ls Po h O D hD hq => ?_
  obtain ⟨p, n, ks, k, rfl, rfl, hk, hd, hn, rfl⟩ := h
  have hq' : ∀ {P' : Post}, (∀ M' l, P' M' l → M' = [(p, Own.lst (kl ks))] ∧ l = .d k.enc) → RetO K O D P' := fun h => hq.imp fun M' l z => h M' l z
  refine go_asg 2 sc_kind_of_few.nd (ed_word (ed_v 0)) ?_
  cases n with
  | name i => cases hn
  | told i => cases hn
  | fn A => cases hn
  | both => cases hn
  | left A => cases hn
  | right A => cases hn
  | call =>
    obtain ⟨a, rfl⟩ := kb_call hk
    refine go_take (et_b (et_eqS (ed_v 2) ed_str) rfl) ?_
    refine go_retX (Ed.ex (ed_callR (ds := [(Kd.fn a k).enc, a.enc]) (d_kind_of_call T) hr (ea_cons (ed_ixO (ed_v 1) List.mem_cons_self ed_int (kl_at (i := 0) rfl)) (ea_cons (ed_ixO (ed_v 1) List.mem_cons_self ed_int (kl_at (i := 1) rfl)) ea_nil)) ⟨a, k, rfl, hd a (by simp), rfl⟩)) (hq' fun M' l h => h)
  | first =>
    obtain ⟨b, rfl⟩ := kb_first hk
    refine go_skip (et_b (et_eqS (ed_v 2) ed_str) rfl) ?_
    refine go_take (et_b (et_inS (ss := ["first", "second"]) (ed_v 2) (ed_tup (ea_cons ed_str (ea_cons ed_str ea_nil)))) rfl) ?_
    refine go_retX (Ed.ex (ed_callR (ds := [.str "first", (Kd.pr k b).enc]) ((d_kind_of_part T).up (by decide)) hr (ea_cons (ed_v 2) (ea_cons (ed_ixO (ed_v 1) List.mem_cons_self ed_int (kl_at (i := 0) rfl)) ea_nil)) ⟨k, b, true, rfl, rfl⟩)) (hq' fun M' l h => h)
  | second =>
    obtain ⟨b, rfl⟩ := kb_second hk
    refine go_skip (et_b (et_eqS (ed_v 2) ed_str) rfl) ?_
    refine go_take (et_b (et_inS (ss := ["first", "second"]) (ed_v 2) (ed_tup (ea_cons ed_str (ea_cons ed_str ea_nil)))) rfl) ?_
    refine go_retX (Ed.ex (ed_callR (ds := [.str "second", (Kd.pr b k).enc]) ((d_kind_of_part T).up (by decide)) hr (ea_cons (ed_v 2) (ea_cons (ed_ixO (ed_v 1) List.mem_cons_self ed_int (kl_at (i := 0) rfl)) ea_nil)) ⟨b, k, false, rfl, rfl⟩)) (hq' fun M' l h => h)
  | which =>
    obtain ⟨a, b, rfl⟩ := kb_which hk
    refine go_skip (et_b (et_eqS (ed_v 2) ed_str) rfl) ?_
    refine go_skip (et_b (et_inS (ss := ["first", "second"]) (ed_v 2) (ed_tup (ea_cons ed_str (ea_cons ed_str ea_nil)))) rfl) ?_
    refine go_take (et_b (et_eqS (ed_v 2) ed_str) rfl) ?_
    refine go_retX (Ed.ex (ed_ifT (et_eq hr.r64 (ed_ixO (ed_v 1) List.mem_cons_self ed_int (kl_at (i := 1) rfl)) (ed_ixO (ed_v 1) List.mem_cons_self ed_int (kl_at (i := 2) rfl)) (eqk k k (by have := hd k (by simp); omega))) (by rw [Kd.eqv]; simp) (ed_ixO (ed_v 1) List.mem_cons_self ed_int (kl_at (i := 1) rfl)))) (hq' fun M' l h => h)
  | next =>
    obtain ⟨rfl, rfl⟩ := kb_next hk
    refine go_skip (et_b (et_eqS (ed_v 2) ed_str) rfl) ?_
    refine go_skip (et_b (et_inS (ss := ["first", "second"]) (ed_v 2) (ed_tup (ea_cons ed_str (ea_cons ed_str ea_nil)))) rfl) ?_
    refine go_skip (et_b (et_eqS (ed_v 2) ed_str) rfl) ?_
    refine go_take (et_b (et_eqS (ed_v 2) ed_str) rfl) ?_
    refine go_retX (Ed.ex (ed_ifT (et_eq hr.r64 (ed_ixO (ed_v 1) List.mem_cons_self ed_int (kl_at (i := 0) rfl)) (ed_number T) (eqk .cnt .cnt (by decide))) (by rw [Kd.eqv]; simp) (ed_number T))) (hq' fun M' l h => h)
  | turns A =>
    obtain ⟨rfl, rfl⟩ := kb_turns hk
    refine go_skip (et_b (et_eqS (ed_v 2) ed_str) rfl) ?_
    refine go_skip (et_b (et_inS (ss := ["first", "second"]) (ed_v 2) (ed_tup (ea_cons ed_str (ea_cons ed_str ea_nil)))) rfl) ?_
    refine go_skip (et_b (et_eqS (ed_v 2) ed_str) rfl) ?_
    refine go_skip (et_b (et_eqS (ed_v 2) ed_str) rfl) ?_
    refine go_retX (Ed.ex (ed_ifT (et_eqS (ed_v 2) ed_str) rfl (Ex.ed (P := fun M' l => M' = [(p, Own.lst (kl [.cnt, k, k]))] ∧ l = .d k.enc) (ex_call ((d_kind_of_turns T).up (by decide)) hr (ea_cons (ed_ixT (ds := [.str "turns", k.enc]) (ed_v 0) ed_int) (ea_cons (ed_v 1) ea_nil)).ac ?_) fun M' l h => h))) (hq' fun M' l h => h)
    rintro M1 ls ⟨rfl, rfl⟩
    refine ⟨_, [], _, List.Perm.of_eq (List.append_nil _).symm, ⟨p, k, rfl, rfl, hd k (by simp), rfl⟩, fun M' l h => ?_⟩
    rw [List.append_nil]
    exact h
  | lt =>
    obtain ⟨a, rfl⟩ := kb_lt hk
    refine go_skip (et_b (et_eqS (ed_v 2) ed_str) rfl) ?_
    refine go_skip (et_b (et_inS (ss := ["first", "second"]) (ed_v 2) (ed_tup (ea_cons ed_str (ea_cons ed_str ea_nil)))) rfl) ?_
    refine go_skip (et_b (et_eqS (ed_v 2) ed_str) rfl) ?_
    refine go_skip (et_b (et_eqS (ed_v 2) ed_str) rfl) ?_
    exact go_retX (Ed.ex (ed_ifF (et_eqS (ed_v 2) ed_str) rfl (ed_ixO (ed_v 1) List.mem_cons_self ed_int (kl_at (i := 1) rfl)))) (hq' fun M' l h => h)
def R_kby : Owns → List Lo → Post → Prop := fun M ls Po => ∃ (p : Addr) (n : Nd) (ks : List Kd) (k : Kd), M = [(p, .lst (kl ks))] ∧ ls = [.d n.enc, .v (.ref p)] ∧ kindBy n ks = some k ∧ (∀ k ∈ ks, k.deep ≤ 100) ∧ Po = fun M' l => M' = M ∧ l = .d k.enc
def madeK : List (Key × V) := mergeK [] (keysK [("fun", .str "fun"), ("both", .str "pair"), ("left", .str "sum"), ("right", .str "sum")])
theorem ed_ixDs {X : Cx} {O : Og} {M : Owns} {ρ : List Lo} {a b : Expr} {pos : Pos} {p : Addr} {x y : Str} {kvs : List (Key × V)} (hu : Room64 X) (ha : Ed X O M ρ a (.v (.ref p))) (hb : Ed X O M ρ b (.d (.str x))) (hm : (p, Own.is (.dK kvs)) ∈ M) (hv : valV kvs (.inr x) = some (.str y)) (hs : NoSl b := by exact fun _ _ => rfl) : Ed X O M ρ (.Subscript a b pos) (.d (.str y)) :=
  fun B σ H S Q q => ed_ixD hu ha hb hm hv hs B σ H S Q fun v B' H' e1 S1 r => by
    have ev : v = .str y := r
    subst ev
    exact q _ B' H' e1 S1 (.str y)
theorem d_kind_by (T : Tx w K mg) : Def P w K mg base CX0 "kind_by" 6 ["node", "some"] (spO K R_kby) := by
  refine def_O (f_kind_by T) (g_kind_by T) sc_kind_by (fun _ _ _ _ _ _ us hl => match us, hl with | [_, _], _ => rfl) (fun M ls Po h => by obtain ⟨p, n, ks, k, rfl, rfl, hk, hd, rfl⟩ := h; rfl) fun cdv A outer s H E hr M ls Po h O D hD hq => ?_
  obtain ⟨p, n, ks, k, rfl, rfl, hk, hd, rfl⟩ := h
  have hq' : ∀ {P' : Post}, (∀ M' l, P' M' l → M' = [(p, Own.lst (kl ks))] ∧ l = .d k.enc) → RetO K O D P' := fun h => hq.imp fun M' l z => h M' l z
  refine go_asgX (P := fun M' l => ∃ dp, M' = [(dp, .is (.dK madeK)), (p, .lst (kl ks))] ∧ l = .v (.ref dp)) 2 sc_kind_by.nd (ex_disp (pps_cons pe_str pe_w (pps_cons pe_str pe_w (pps_cons pe_str pe_w (pps_cons pe_str pe_w pps_nil))))
    (fun dp hdp => ap_cons (ex_str (ed_gs (c_FUN T))) fun M1 v1 h1 => ap_cons (ex_str (ed_gs (c_PAIR T))) fun M2 v2 h2 => ap_cons (ex_str (ed_gs (c_SUM T))) fun M3 v3 h3 => ap_cons (ex_str (ed_gs (c_SUM T))) fun M4 v4 h4 => ap_nil) ?_) ?_
  · rintro dp M' kvs ⟨_, _, r1, ⟨rfl, rfl⟩, rfl, _, _, r2, ⟨rfl, rfl⟩, rfl, _, _, r3, ⟨rfl, rfl⟩, rfl, _, _, r4, ⟨rfl, rfl⟩, rfl, rfl, rfl⟩
    exact ⟨0, rfl, by simp, dp, rfl, rfl⟩
  · rintro M' l ⟨dp, rfl, rfl⟩
    refine go_asg 3 sc_kind_by.nd (ed_word (ed_v 0)) ?_
    by_cases hf : n.few = true
    · have h2 : (valV madeK (.inr n.word)).isSome = false := by cases n <;> first | rfl | cases hf
      refine go_take (et_b (k' := true) (et_ninD hr.r64 (ed_v 3) (ed_v 2) List.mem_cons_self) (by rw [h2]; rfl)) ?_
      refine Go.drop (M' := [(p, .lst (kl ks))]) ?_ (List.sublist_cons_self _ _)
      refine go_retX (P := fun M' l => M' = [(p, Own.lst (kl ks))] ∧ l = .d k.enc) (ex_call ((d_kind_of_few T).up (by decide)) hr (ea_cons (ed_v 0) (ea_cons (ed_v 1) ea_nil)).ac ?_) (hq' fun M' l h => h)
      rintro M1 ls ⟨rfl, rfl⟩
      refine ⟨_, [], _, List.Perm.of_eq (List.append_nil _).symm, ⟨p, n, ks, k, rfl, rfl, hk, hd, hf, rfl⟩, fun M' l h => ?_⟩
      rw [List.append_nil]
      exact h
    cases n with
    | name i => cases hk
    | told i => cases hk
    | call => exact absurd rfl hf
    | first => exact absurd rfl hf
    | second => exact absurd rfl hf
    | which => exact absurd rfl hf
    | next => exact absurd rfl hf
    | turns A => exact absurd rfl hf
    | lt => exact absurd rfl hf
    | fn A =>
      obtain ⟨b, rfl, rfl, ho⟩ := kb_fn hk
      refine go_skip (et_b (et_ninD hr.r64 (ed_v 3) (ed_v 2) List.mem_cons_self) rfl) ?_
      refine go_take (et_b (et_or (et_eqS (ed_v 3) ed_str) fun z => et_eqS (ed_v 3) ed_str) rfl) ?_
      refine go_asg 4 sc_kind_by.nd (ed_tup (ds := [.str "fun", A.enc, b.enc]) (ea_cons (ed_ixDs hr.r64 (ed_v 2) (ed_v 3) List.mem_cons_self rfl) (ea_cons (ed_ixT (ds := [.str "fun", A.enc]) (ed_v 0) ed_int) (ea_cons (ed_ixO (ed_v 1) (.tail _ (.head _)) ed_int (kl_at (i := 0) rfl)) ea_nil)))) (go_thn (Go.drop (M' := [(p, .lst (kl _))]) (go_retX (Ed.ex (ed_ifT (et_v (ed_callR (ds := [Kd.enc _]) ((d_is_kind T).up (by decide)) hr (ea_cons (ed_v 4) ea_nil) ⟨_, rfl, ho, rfl⟩)) rfl (ed_v 4))) (hq' fun M' l h => h)) (List.sublist_cons_self _ _)))
    | right A =>
      obtain ⟨b, rfl, rfl, ho⟩ := kb_right hk
      refine go_skip (et_b (et_ninD hr.r64 (ed_v 3) (ed_v 2) List.mem_cons_self) rfl) ?_
      refine go_take (et_b (et_or (et_eqS (ed_v 3) ed_str) fun z => et_eqS (ed_v 3) ed_str) rfl) ?_
      refine go_asg 4 sc_kind_by.nd (ed_tup (ds := [.str "sum", A.enc, b.enc]) (ea_cons (ed_ixDs hr.r64 (ed_v 2) (ed_v 3) List.mem_cons_self rfl) (ea_cons (ed_ixT (ds := [.str "right", A.enc]) (ed_v 0) ed_int) (ea_cons (ed_ixO (ed_v 1) (.tail _ (.head _)) ed_int (kl_at (i := 0) rfl)) ea_nil)))) (go_thn (Go.drop (M' := [(p, .lst (kl _))]) (go_retX (Ed.ex (ed_ifT (et_v (ed_callR (ds := [Kd.enc _]) ((d_is_kind T).up (by decide)) hr (ea_cons (ed_v 4) ea_nil) ⟨_, rfl, ho, rfl⟩)) rfl (ed_v 4))) (hq' fun M' l h => h)) (List.sublist_cons_self _ _)))
    | both =>
      obtain ⟨a, b, rfl, rfl, ho⟩ := kb_both hk
      refine go_skip (et_b (et_ninD hr.r64 (ed_v 3) (ed_v 2) List.mem_cons_self) rfl) ?_
      refine go_if (k := false) (et_b (et_or (et_eqS (ed_v 3) ed_str) fun z => et_eqS (ed_v 3) ed_str) rfl) (fun z => by cases z) fun _ => ?_
      refine go_asg 4 sc_kind_by.nd (ed_tup (ds := [.str "pair", a.enc, b.enc]) (ea_cons (ed_ixDs hr.r64 (ed_v 2) (ed_v 3) List.mem_cons_self rfl) (ea_cons (ed_ixO (ed_v 1) (.tail _ (.head _)) ed_int (kl_at (i := 0) rfl)) (ea_cons (ed_ifT (et_eqS (ed_v 3) ed_str) rfl (ed_ixO (ed_v 1) (.tail _ (.head _)) ed_int (kl_at (i := 1) rfl))) ea_nil)))) (go_thn (Go.drop (M' := [(p, .lst (kl _))]) (go_retX (Ed.ex (ed_ifT (et_v (ed_callR (ds := [Kd.enc _]) ((d_is_kind T).up (by decide)) hr (ea_cons (ed_v 4) ea_nil) ⟨_, rfl, ho, rfl⟩)) rfl (ed_v 4))) (hq' fun M' l h => h)) (List.sublist_cons_self _ _)))
    | left B =>
      obtain ⟨a, rfl, rfl, ho⟩ := kb_left hk
      refine go_skip (et_b (et_ninD hr.r64 (ed_v 3) (ed_v 2) List.mem_cons_self) rfl) ?_
      refine go_if (k := false) (et_b (et_or (et_eqS (ed_v 3) ed_str) fun z => et_eqS (ed_v 3) ed_str) rfl) (fun z => by cases z) fun _ => ?_
      refine go_asg 4 sc_kind_by.nd (ed_tup (ds := [.str "sum", a.enc, B.enc]) (ea_cons (ed_ixDs hr.r64 (ed_v 2) (ed_v 3) List.mem_cons_self rfl) (ea_cons (ed_ixO (ed_v 1) (.tail _ (.head _)) ed_int (kl_at (i := 0) rfl)) (ea_cons (ed_ifF (et_eqS (ed_v 3) ed_str) rfl (ed_ixT (ds := [.str "left", B.enc]) (ed_v 0) ed_int)) ea_nil)))) (go_thn (Go.drop (M' := [(p, .lst (kl _))]) (go_retX (Ed.ex (ed_ifT (et_v (ed_callR (ds := [Kd.enc _]) ((d_is_kind T).up (by decide)) hr (ea_cons (ed_v 4) ea_nil) ⟨_, rfl, ho, rfl⟩)) rfl (ed_v 4))) (hq' fun M' l h => h)) (List.sublist_cons_self _ _)))
end
end K32

set_option maxRecDepth 100000
set_option maxHeartbeats 4000000
namespace K32
open PySem L2
section
variable {X : Cx} {O : Og} {M : Owns} {ρ : List Lo} {e a b c : Expr} {es : List Expr} {l la lb : Lo} {pos p1 p2 p3 : Pos} {D : Ends} {st : Stmt} {rest : List Stmt} {P : Post} {j : Nat}
/-- a call that reads some own objects and leaves them as they stood -/
theorem ed_callO {x : Str} {k : Nat} {ps : List Str} {R : Owns → List Lo → Post → Prop} {ls : List Lo} {P1 : Post} (Mx Mr : Owns) (F : Def X.prog X.w X.K X.mg X.base CX0 x k ps (spO X.K R)) (hr : Room k X.A) (ha : Ea X O M ρ (e :: es) ls)
    (hM : M.Perm (Mx ++ Mr)) (hR : R Mx ls P1) (h : ∀ M' l', P1 M' l' → M' = Mx ∧ l' = l)
    (hg : Gl X x := by rfl) (hdb : (x == ("__debug__" : Str)) = false := by decide) (he : starEach (e :: es) X.env = (false, eval e X.env) :: starEach es X.env := by rfl)
    (hpl : (backTo pos (starEach es X.env)).any (·.1) = false := by rfl) : Ed X O M ρ (.Call (.Name x p1) (e :: es) [] pos) l := fun B σ H S Q q =>
  ex_call (P := fun M' l' => M' = Mx ++ Mr ∧ l' = l) F hr ha.ac (fun M1 ls1 hp => by
    obtain ⟨rfl, rfl⟩ := hp
    exact ⟨Mx, Mr, P1, hM, hR, fun M' l' g => by obtain ⟨rfl, rfl⟩ := h M' l' g; exact ⟨rfl, rfl⟩⟩) hg hdb he hpl B σ H S Q fun v l' M' B' H' g e1 S1 r => by
      obtain ⟨rfl, rfl⟩ := g
      exact q v B' H' e1 (S1.perm hM.symm) r
theorem perm_at : ∀ {M : Owns} {j : Nat} {x : Addr × Own}, M[j]? = some x → M.Perm ([x] ++ M.eraseIdx j)
  | [], _, _, h => by simp at h
  | y :: M, 0, x, h => by simp at h; subst h; exact List.Perm.refl _
  | y :: M, j + 1, x, h => by
    have ih := perm_at (M := M) (j := j) (x := x) (by simpa using h)
    exact (ih.cons y).trans (List.Perm.swap _ _ _)
theorem atI_last {α : Type} {ls : List α} {l : α} : atI (ls ++ [l]) (-1) = some l := by
  unfold atI ixN
  rw [List.length_append, List.length_singleton, if_neg (by omega), if_pos (by omega)]
  show (ls ++ [l])[_]? = _
  rw [show ((-1 : Int) + ((ls.length + 1 : Nat) : Int)).toNat = ls.length by omega, List.getElem?_append_right (Nat.le_refl _), Nat.sub_self]
  rfl
end
section
variable {P : Program} {w : World} {K : PySem.W.Frag} {mg : Str → Option Value} {base : Heap}
theorem bb_len {n : Nd} {ks : List Kd} {k : Kd} (h : boundBy n ks = some k) : (∃ a b, n = .which ∧ ks = [.sm a b] ∧ k = a) ∨ (∃ a b c, n = .which ∧ ks = [.sm a b, c] ∧ k = b) ∨ (n = .lt ∧ ks = [k]) ∨ (n = .fn k ∧ ks = []) ∨ (∃ c, n = .turns k ∧ ks = [c]) := by
  unfold boundBy at h
  split at h <;> simp at h
  · subst h; exact .inl ⟨_, _, rfl, rfl, rfl⟩
  · subst h; exact .inr (.inl ⟨_, _, _, rfl, rfl, rfl⟩)
  · subst h; exact .inr (.inr (.inl ⟨rfl, rfl⟩))
  · subst h; exact .inr (.inr (.inr (.inl ⟨rfl, rfl⟩)))
  · subst h; exact .inr (.inr (.inr (.inr ⟨_, rfl, rfl⟩)))
theorem kl_sm {a b : Kd} {ks : List Kd} : atI (kl (.sm a b :: ks)) 0 = some (.d (.tuple [.str "sum", a.enc, b.enc])) := kl_at (ks := .sm a b :: ks) (i := 0) (k := .sm a b) rfl
def R_bound : Owns → List Lo → Post → Prop := fun M ls Po => ∃ (p : Addr) (n : Nd) (ks : List Kd) (k : Kd), M = [(p, .lst (kl ks))] ∧ ls = [.d n.enc, .v (.ref p)] ∧ boundBy n ks = some k ∧ Po = fun M' l => M' = M ∧ l = .d k.enc
theorem kl_len (ks : List Kd) : (kl ks).length = ks.length := by unfold kl; rw [List.length_map, List.length_map]
theorem d_bound_kind (T : Tx w K mg) : Def P w K mg base CX0 "bound_kind" 1 ["node", "some"] (spO K R_bound) := by
  refine def_O (f_bound_kind T) (g_bound_kind T) sc_bound_kind (fun _ _ _ _ _ _ us hl => match us, hl with | [_, _], _ => rfl) (fun M ls Po h => by obtain ⟨p, n, ks, k, rfl, rfl, hk, rfl⟩ := h; rfl) fun cdv A outer s H E hr M ls Po h O D hD hq => ?_
  obtain ⟨p, n, ks, k, rfl, rfl, hk, rfl⟩ := h
  have hq' : ∀ {P' : Post}, (∀ M' l, P' M' l → M' = [(p, Own.lst (kl ks))] ∧ l = .d k.enc) → RetO K O D P' := fun h => hq.imp fun M' l z => h M' l z
  refine go_asg 2 sc_bound_kind.nd (ed_word (ed_v 0)) ?_
  rcases bb_len hk with ⟨a, b, rfl, rfl, rfl⟩ | ⟨a, b, c, rfl, rfl, rfl⟩ | ⟨rfl, rfl⟩ | ⟨rfl, rfl⟩ | ⟨c, rfl, rfl⟩
  · refine go_take (et_b (et_eqS (ed_v 2) ed_str) rfl) ?_
    refine go_retX (Ed.ex (ed_ifT (et_eqS (ed_ixT (ds := [.str "sum", Kd.enc _, b.enc]) (ed_ixO (ed_v 1) (.head _) ed_int kl_sm) ed_int) (ed_gs (c_SUM T))) rfl (ed_ixT (ds := [.str "sum", Kd.enc _, b.enc]) (ed_ixO (ed_v 1) (.head _) ed_int kl_sm) (ed_lenO (b_len T) (ed_v 1) (.head _))))) (hq' fun M' l h => h)
  · refine go_take (et_b (et_eqS (ed_v 2) ed_str) rfl) ?_
    refine go_retX (Ed.ex (ed_ifT (et_eqS (ed_ixT (ds := [.str "sum", a.enc, Kd.enc _]) (ed_ixO (ed_v 1) (.head _) ed_int kl_sm) ed_int) (ed_gs (c_SUM T))) rfl (ed_ixT (ds := [.str "sum", a.enc, Kd.enc _]) (ed_ixO (ed_v 1) (.head _) ed_int kl_sm) (ed_lenO (b_len T) (ed_v 1) (.head _))))) (hq' fun M' l h => h)
  · refine go_skip (et_b (et_eqS (ed_v 2) ed_str) rfl) ?_
    refine go_retX (Ed.ex (ed_ifT (et_eqS (ed_v 2) ed_str) rfl (ed_ixO (ed_v 1) (.head _) ed_int (kl_at (i := 0) rfl)))) (hq' fun M' l h => h)
  · refine go_skip (et_b (et_eqS (ed_v 2) ed_str) rfl) ?_
    refine go_retX (Ed.ex (ed_ifF (et_eqS (ed_v 2) ed_str) rfl (ed_ixT (ds := [.str "fun", k.enc]) (ed_v 0) ed_int))) (hq' fun M' l h => h)
  · refine go_skip (et_b (et_eqS (ed_v 2) ed_str) rfl) ?_
    refine go_retX (Ed.ex (ed_ifF (et_eqS (ed_v 2) ed_str) rfl (ed_ixT (ds := [.str "turns", k.enc]) (ed_v 0) ed_int))) (hq' fun M' l h => h)
/-! ### the class Frame -/
structure Fr where
  pos : Nat
  row : List Kd
  got : List Kd
abbrev A3 := Addr × Addr × Addr
abbrev frC (K : PySem.W.Frag) : Addr := He.ga K "Frame"
abbrev frF (p r : PyData) (sa : Addr) : List (Str × Lo) := [("own_position", .d p), ("own_row", .d r), ("own_some", .v (.ref sa))]
def frO (K : PySem.W.Frag) (a : A3) (f : Fr) : Owns := [(a.2.2, .lst (kl f.got)), (a.1, .ins (frC K) a.2.1 (frF (.int f.pos) (encRow f.row) a.2.2))]
abbrev N_init : List Str := ["self", "position", "row"]
theorem sc_init : FnScope N_init ["self", "position", "row"] (defScope s_Frame_init) := ⟨rfl, rfl, rfl, by decide +kernel, rfl, by decide +kernel, by decide +kernel⟩
theorem f_init (T : Tx w K mg) : ∃ fd, FunD K "__init__" "Frame.__init__" (defArgs s_Frame_init) (defBody s_Frame_init) (defScope s_Frame_init) [] [] (He.ma K (frC K) "__init__") fd := T.fn 72
theorem Tx.frCls (T : Tx w K mg) : Cls K (frC K) := He.cls_ok (T.fact (f := .cls "Frame") 119)
theorem Tx.frMk (T : Tx w K mg) : Mk K (frC K) (He.ma K (frC K) "__init__") := He.mkr_ok (T.fact (f := .mkr "Frame") 120)
theorem Tx.frP (T : Tx w K mg) : NoAttr K (frC K) "own_position" := He.noat_ok (T.fact (f := .noat "Frame" "own_position") 121)
theorem Tx.frR (T : Tx w K mg) : NoAttr K (frC K) "own_row" := He.noat_ok (T.fact (f := .noat "Frame" "own_row") 122)
theorem Tx.frS (T : Tx w K mg) : NoAttr K (frC K) "own_some" := He.noat_ok (T.fact (f := .noat "Frame" "own_some") 123)
def R_init (K : PySem.W.Frag) : Owns → List Lo → Post → Prop := fun M ls Po => ∃ (x dx : Addr) (p r : PyData), M = [(x, .ins (frC K) dx [])] ∧ ls = [.v (.ref x), .d p, .d r] ∧ Po = fun M' l => (∃ sa, M' = [(sa, .lst []), (x, .ins (frC K) dx (frF p r sa))]) ∧ l = .d .none
theorem d_init (T : Tx w K mg) : ∃ fd, FnOk P w K mg base CX0 1 (He.ma K (frC K) "__init__") fd ["self", "position", "row"] (spO K (R_init K)) ∧ Binds K fd ["self", "position", "row"] [] := by
  obtain ⟨fd, F⟩ := f_init T
  refine ⟨fd, fn_O F sc_init (fun M ls Po h => by obtain ⟨x, dx, p, r, rfl, rfl, rfl⟩ := h; rfl) fun cdv A outer s H E hr M ls Po h O D hD hq => ?_, F.bindsN fun _ _ _ _ _ _ us hl => match us, hl with | [_, _, _], _ => rfl⟩
  obtain ⟨x, dx, p, r, rfl, rfl, rfl⟩ := h
  refine go_fld 0 (ed_v 1) (ed_v 0) rfl (by simp) T.frCls T.frP (by decide) ?_
  refine go_fld 0 (ed_v 2) (ed_v 0) rfl (by intro q hq; simp at hq; subst hq; show ("own_position" : Str) ≠ "own_row"; decide) T.frCls T.frR (by simp) ?_
  refine go_fldL (ls := []) 0 (el_lst ea_nil) (fun M' => ed_v 0) rfl (by intro q hq; simp at hq; rcases hq with rfl | rfl; (show ("own_position" : Str) ≠ "own_some"; decide); (show ("own_row" : Str) ≠ "own_some"; decide)) T.frCls T.frS (by simp) fun sa hsa => ?_
  exact go_nilO hD hq ⟨⟨sa, rfl⟩, rfl⟩
/-- what is around the next part -/
def rowNext (n : Nd) (f : Fr) : Option (List Kd) := match n.binds[f.got.length]? with
  | some 0 => some f.row
  | some _ => (boundBy n f.got).map (· :: f.row)
  | none => none
def R_next (K : PySem.W.Frag) : Owns → List Lo → Post → Prop := fun M ls Po => ∃ (a : A3) (f : Fr) (e : PyData) (l : List Nd) (n : Nd) (Γ : List Kd), M = frO K a f ∧ ls = [.d e, .v (.ref a.1)] ∧ SeqD e (encs l) ∧ l[f.pos]? = some n ∧ rowNext n f = some Γ ∧ Po = fun M' l => M' = M ∧ l = .d (encRow Γ)
theorem d_next_row (T : Tx w K mg) : Def P w K mg base CX0 "next_row" 2 ["nodes", "frame"] (spO K (R_next K)) := by
  refine def_O (f_next_row T) (g_next_row T) sc_next_row (fun _ _ _ _ _ _ us hl => match us, hl with | [_, _], _ => rfl) (fun M ls Po h => by obtain ⟨a, f, e, l, n, Γ, rfl, rfl, he, hn, hk, rfl⟩ := h; rfl) fun cdv A outer s H E hr M ls Po h O D hD hq => ?_
  obtain ⟨a, f, e, l, n, Γ, rfl, rfl, he, hn, hk, rfl⟩ := h
  have hq' : ∀ {P' : Post}, (∀ M' l, P' M' l → M' = frO K a f ∧ l = .d (encRow Γ)) → RetO K O D P' := fun h => hq.imp fun M' l z => h M' l z
  refine go_asg 2 sc_next_row.nd (ed_ixS (ed_v 0) he (ed_fld (ed_v 1) (.tail _ (.head _)) rfl T.frCls T.frP) (encs_get hn)) ?_
  cases hb : n.binds[f.got.length]? with
  | none => unfold rowNext at hk; rw [hb] at hk; cases hk
  | some m =>
    have e1 : atI (intsD n.binds) ((kl f.got).length : Int) = some (.int (m : Int)) := atI_nat (by rw [kl_len]; unfold intsD; rw [List.getElem?_map, hb]; rfl)
    cases m with
    | zero =>
      unfold rowNext at hk
      rw [hb] at hk
      cases hk
      refine go_take (et_b (et_eqI (ed_ixT (ed_binds T (ed_word (ed_v 2))) (ed_lenO (b_len T) (ed_fld (ed_v 1) (.tail _ (.head _)) rfl T.frCls T.frS) (.head _)) e1) ed_int) rfl) ?_
      exact go_retX (Ed.ex (ed_fld (ed_v 1) (.tail _ (.head _)) rfl T.frCls T.frR)) (hq' fun M' l h => h)
    | succ m =>
      unfold rowNext at hk
      rw [hb] at hk
      cases hbb : boundBy n f.got with
      | none => rw [hbb] at hk; cases hk
      | some k =>
        rw [hbb] at hk
        cases hk
        refine go_skip (et_b (et_eqI (ed_ixT (ed_binds T (ed_word (ed_v 2))) (ed_lenO (b_len T) (ed_fld (ed_v 1) (.tail _ (.head _)) rfl T.frCls T.frS) (.head _)) e1) ed_int) (decide_eq_false (by omega))) ?_
        refine go_asg 3 sc_next_row.nd (ed_callO (l := .d k.enc) [_] _ ((d_bound_kind T).up (by decide)) hr (ea_cons (ed_v 2) (ea_cons (ed_fld (ed_v 1) (.tail _ (.head _)) rfl T.frCls T.frS) ea_nil)) (perm_at (j := 0) rfl) ⟨a.2.2, n, f.got, k, rfl, rfl, hbb, rfl⟩ fun M' l' h => h) ?_
        refine go_skip (et_b (et_isNone (ed_v 3)) (by cases k <;> rfl)) ?_
        exact go_retX (Ed.ex (ed_tup (ds := [k.enc, encRow f.row]) (ea_cons (ed_v 3) (ea_cons (ed_fld (ed_v 1) (.tail _ (.head _)) rfl T.frCls T.frR) ea_nil)))) (hq' fun M' l h => h)
end
end K32

set_option maxRecDepth 100000
set_option maxHeartbeats 4000000
namespace K32
open PySem L2
/-! ## 17. enumerate of a tuple -/
theorem enumB_new {v : Value} {ob : Obj} {HH : Heap → Prop} (B : Begins v ob HH) :
    Meets (Builtin.«enumerate.__new__» ⟨[.type "enumerate", v], []⟩) (fun _ R s => HH s.heap ∧
      R (.ok (.ret (.ref (s.heap.push ob).objs.size))) { s with heap := (s.heap.push ob).push { cls := .type "enumerate", data := .fields #[.none, .bool false, .ref s.heap.objs.size, rawInt 0, .none, .none] } }) :=
  .of_wp fun prog w A R s hh => by
    obtain ⟨hp, g, d, tk, os⟩ := s
    obtain ⟨hH, h⟩ := hh
    have hsub := sub_enumerate
    have qI : ∀ {A' : Around} {E : Value → Shared → Prop} {Q : Value → Shared → Prop}, Q (.ref hp.objs.size) ⟨hp.push ob, g, d, tk, os⟩ → wpAny (model prog w) A' (pyIter v) Q E ⟨hp, g, d, tk, os⟩ := fun z => B.iter prog w _ _ ⟨hp, g, d, tk, os⟩ _ hH z
    wp_walk using qI
    refine wpAny_stack_any fun st => wpAny_pure ?_
    split
    · rename_i c1 _ _ _ _ _
      cases (c1 == Value.type "enumerate") <;> (wp_walk using qI; exact ⟨_, rfl, h⟩)
    · wp_walk using qI; exact ⟨_, rfl, h⟩
theorem enumB_call {prog : Program} {w : World} {A : Around} {E : Value → Shared → Prop} {s : Shared} {v : Value} {ob : Obj} {HH : Heap → Prop} {Q : Value → Shared → Prop} (B : Begins v ob HH) (hH : HH s.heap)
    (h : ∀ h', IsEnum h' (s.heap.objs.size + 1) s.heap.objs.size 0 .none → h'.get? s.heap.objs.size = some ob → (∀ b u, s.heap.get? b = some u → h'.get? b = some u) → Q (.ref (s.heap.objs.size + 1)) { s with heap := h' }) :
    wpAny (model prog w) A (call (.type "enumerate") [v]) Q E s := by
  refine callType_new F.called_enumerate (by decide) (F.typeCall_enumerate_1 _) (F.newCall_enumerate_1 _) (fun u => F.args_object_init_2 u _) F.entry_enumerate_new (enumB_new B) ⟨hH, ?_⟩
  have hz : (s.heap.push ob).objs.size = s.heap.objs.size + 1 := Heap.size_push ..
  show _ ∧ _
  rw [hz]
  have he : IsEnum ((s.heap.push ob).push { cls := .type "enumerate", data := .fields #[.none, .bool false, .ref s.heap.objs.size, rawInt 0, .none, .none] }) (s.heap.objs.size + 1) s.heap.objs.size 0 .none := by
    have z := Heap.get?_push_size (s.heap.push ob) (o := { cls := .type "enumerate", data := .fields #[.none, .bool false, .ref s.heap.objs.size, rawInt 0, .none, .none] }) rfl
    rwa [hz] at z
  exact ⟨⟨_, he, rfl⟩, h _ he (Heap.get?_push_of_some _ (Heap.get?_push_size _ B.free)) fun b u x => Heap.get?_push_of_some _ (Heap.get?_push_of_some _ x)⟩
def ItT (K : PySem.W.Frag) (a : Addr) : It where
  go := fun i H => ∃ (xs : List V) (x : V), SqT K H a xs ∧ xs[i]? = some x
  yld := fun i H v H' => ∃ T x, v = .ref T ∧ H T = none ∧ H' = upd H T (.tup [.int (i : Nat), x]) ∧ ∀ xs, SqT K H a xs → xs[i]? = some x
  stop := fun i H => ∃ xs : List V, SqT K H a xs ∧ xs.length = i
def EnT (a e it : Addr) (i : Nat) (h : Heap) : Prop := (∃ old, IsEnum h e it ((i : Nat) : Int) old) ∧ h.IsTupleIter it a i ∧ e ≠ it ∧ a ≠ it ∧ e ≠ a
theorem turn_enT {P : Program} {w : World} {K : PySem.W.Frag} {elts : List Expr} {kk : Nat} {tpos : Pos} (a e it : Addr) : Turn P w K (.Tuple elts kk tpos) (ItT K a) [e, it] e (EnT a e it) where
  mem := List.mem_cons_self
  obj := fun i h st b hb => by
    obtain ⟨⟨old, he⟩, ⟨o, ho, hc, hd⟩, _⟩ := st
    rcases (show b = e ∨ b = it by simpa using hb) with rfl | rfl
    · exact ⟨_, he, fun v q => nomatch q⟩
    · exact ⟨o, ho, fun v q => by rw [hd] at q; cases q⟩
  keep := fun i h h' st k => by
    obtain ⟨⟨old, he⟩, hi, ne⟩ := st
    exact ⟨⟨old, k e List.mem_cons_self _ he⟩, hi.at fun o q => k it (by simp) o q, ne⟩
  item := by
    intro X hP hw hK hc i pins s σ H E I hf st hg
    subst hP hw hK
    obtain ⟨⟨old, he⟩, hit, ne, nt, ne2⟩ := st
    obtain ⟨xs, x, hq, hx⟩ := hg
    obtain ⟨its, rv, p, hz⟩ := I.tuple hq
    obtain ⟨u, hu, ru⟩ := rv.get hx
    have hel : e < s.heap.objs.size := Heap.lt_size he
    have hil : it < s.heap.objs.size := by obtain ⟨_, q, _⟩ := hit; exact Heap.lt_size q
    have hlt : i < its.toArray.size := by have := (List.getElem?_eq_some_iff.mp hu).1; simpa using this
    have Dr := Draws.tuple (prog := X.prog) (w := X.w) (A := X.A.in1) (I.ok.hd hc) it a nt its.toArray
    refine wpAny_pyNext_enum_itemC Dr he ⟨hit, p⟩ hlt ne (by simp [ne, ne2]) fun x1 h' tk hP1 ho hS hT hsz hk => ?_
    have ex : x1 = u := by
      have hP1 : its.toArray[i]? = some x1 := hP1
      rw [List.getElem?_toArray, hu] at hP1
      exact (Option.some.inj hP1).symm
    subst ex
    refine ⟨_, rfl, wpAny_letOwnedTupleGo_enum (s := { s with heap := h', toks := tk + 1 }) ho fun h2 he2 sb => ?_⟩
    have hT2 : h2.get? s.heap.objs.size = some { cls := .type "tuple", data := .seq #[.int i tk, x1] } := (sb.2 _ (Nat.ne_of_gt hel)).trans hT
    have nw : ObjOk X.prog X.w (upd H s.heap.objs.size (.tup [.int (i : Nat), x])) h2 s.heap.objs.size (.tup [.int (i : Nat), x]) :=
      ⟨by show 2 ≤ sizeLine; decide, [.int i tk, x1], .cons ⟨_, rfl⟩ (.cons ru .nil), _, hT2, rfl, _, rfl⟩
    have kp : ∀ b ob, b ∉ [e, it] → s.heap.get? b = some ob → h2.get? b = some ob := fun b ob hb q => by
      have n1 : b ≠ e := fun z => hb (by simp [z])
      have n2 : b ≠ it := fun z => hb (by simp [z])
      exact (sb.2 b n1).trans (hk b ob n1 n2 q)
    have I1 := I.turnedNew (t' := tk + 1) kp hf (Nat.le_refl _) nw
    refine ⟨.ref s.heap.objs.size, _, I1, rfl, ⟨_, x, rfl, I.hok.fresh (Nat.le_refl _), rfl, fun ys hy => by rw [I.tuple_inj hy hq]; exact hx⟩, ⟨⟨x1, ?_⟩, hS.1.at fun o q => (sb.2 it (Ne.symm ne)).trans q, ne, nt, ne2⟩, fun b hb => ?_⟩
    · rw [show ((i + 1 : Nat) : Int) = (i : Int) + 1 by omega]
      exact he2
    · have hb2 : b < s.heap.objs.size := by
        rcases (show b = e ∨ b = it by simpa using hb) with rfl | rfl
        · exact hel
        · exact hil
      rw [upd_ne (Nat.ne_of_lt hb2)]
      exact (hf b hb).1
  done := by
    intro X hP hw hK hc i pins s σ H E I hf st hg
    subst hP hw hK
    obtain ⟨⟨old, he⟩, hit, ne, nt, ne2⟩ := st
    obtain ⟨xs, hq, hx⟩ := hg
    obtain ⟨its, rv, p, hz⟩ := I.tuple hq
    obtain ⟨f0, f1, f2, f3, f4, f5⟩ := hf it (by simp)
    have hl := rv.length
    have Dr := Draws.tuple (prog := X.prog) (w := X.w) (A := X.A.in1) (I.ok.hd hc) it a nt its.toArray
    have hn : its.toArray.size = i := by simp; omega
    exact wpAny_pyNext_enum_endD Dr he ⟨by rw [hn]; exact hit, p⟩ fun h' eb => ⟨rfl, I.turned (t' := s.toks) (fun b o hb q => eb b o hb q) f0 f1 f3 f4 f5⟩
  self := fun A i s Q E st h => let ⟨⟨_, he⟩, _⟩ := st; wpAny_pyIter_enum he h
section
variable {X : Cx} {O : Og} {M : Owns} {ρ : List Lo} {a tg : Expr} {pos p1 : Pos}
def iEnT (K : PySem.W.Frag) (ta : TA) : TI := fun σ H R => ta σ H fun vs H1 => ∃ a xs, vs = [.ref a] ∧ SqT K H1 a xs ∧ R (ItT K a) H1
theorem pi_enT {e : Expr} {ta : TA} {elts : List Expr} {kk : Nat} {tpos : Pos} (hg : Gl X "enumerate") (hm : X.mg "enumerate" = none) (ha : PA X [e] ta) (hs : starEach [e] X.env = [(false, eval e X.env)]) :
    PI X (.Tuple elts kk tpos) (.Call (.Name "enumerate" p1) [e] [] pos) (iEnT X.K ta) := by
  refine ⟨fun pins s σ H R I h => PyProof.Rows.Call_ (ld_blt I hg hm PyProof.Rows.boot_enumerate (PyProof.Rows.callWith_type1 (L2.thn (ha.run pos pins s σ H _ I h) fun us s1 z => ?_) hs rfl))⟩
  obtain ⟨vs, H1, I1, r1, t, xs, rfl, hq, q⟩ := z
  cases r1 with
  | cons r rr =>
    cases rr
    cases r
    obtain ⟨its, rv, p, hz⟩ := I1.tuple hq
    have ht : t < s1.heap.objs.size := by obtain ⟨_, z, _⟩ := p; exact Heap.lt_size z
    refine enumB_call (begins_tuple t its.toArray) p fun h' he ho hk => wpAny_pyIter_enum he ?_
    refine ⟨s1.heap.objs.size + 1, [s1.heap.objs.size + 1, s1.heap.objs.size], _, _, H1, rfl, I1.kept (t' := s1.toks) hk, turn_enT t (s1.heap.objs.size + 1) s1.heap.objs.size, ⟨⟨.none, he⟩, ⟨_, ho, rfl, rfl⟩, Nat.succ_ne_self _, Nat.ne_of_lt ht, Nat.ne_of_gt (Nat.lt_succ_of_lt ht)⟩, fun b hb => ?_, q⟩
    have hle : s1.heap.objs.size ≤ b := by
      rcases (show b = s1.heap.objs.size + 1 ∨ b = s1.heap.objs.size by simpa using hb) with rfl | rfl <;> omega
    exact I1.fpOk hle (I1.hok.fresh hle)
theorem walk_enT {K : PySem.W.Frag} {p : Addr} {xs : List V} : Walk (ItT K p) xs.length (fun H => SqT K H p xs) (YPair (fun i => some (.int (i : Nat))) (fun i => xs[i]?)) := by
  refine ⟨fun i _ hi q => ⟨xs, xs[i], q, List.getElem?_eq_getElem hi⟩, fun _ q => ⟨xs, q, rfl⟩, fun i H v H' _ q y => ?_⟩
  obtain ⟨T, x, h1, h2, h3, h4⟩ := y
  exact ⟨T, .int (i : Nat), x, h1, h2, h3, rfl, h4 xs q⟩
/-- enumerate of a tuple -/
theorem it_enumT {ds : List PyData} {elts : List Expr} {kk : Nat} {tpos : Pos} (hm : X.mg "enumerate" = none) (ha : Ed X O M ρ a (.d (.tuple ds))) (hg : Gl X "enumerate" := by rfl) (hs : starEach [a] X.env = [(false, eval a X.env)] := by rfl) (hs1 : starEach [a] X.env = (false, eval a X.env) :: starEach [] X.env := by rfl) :
    Iter X O M ρ (.Tuple elts kk tpos) (.Call (.Name "enumerate" p1) [a] [] pos) ds.length (fun i => .tuple [.int i, ds.getD i .none]) :=
  ⟨_, pi_enT hg hm pa_w hs, fun B σ H S R k => (ea_cons ha ea_nil hs1) B σ H S _ fun vs B1 H1 e1 S1 r => by
    cases r with
    | cons r1 r =>
      cases r
      cases r1 with
      | tup h1 h2 =>
        refine ⟨_, _, rfl, sqt_mono S1.bh h1, ?_⟩
        rw [← h2.length] at k
        refine k _ B1 H1 _ _ e1 S1 walk_enT (fun B2 H2 g1 g2 => sqt_mono g2 (sqt_mono g1 h1)) (gives_pair (fun i x hi hx => ?_) fun i y hi hy => ?_)
        · cases hx
          exact .int _
        · obtain ⟨d, hd, hv⟩ := h2.of_get hy
          rw [List.getD_eq_getElem?_getD, hd]
          exact hv⟩
end
end K32

set_option maxRecDepth 100000
set_option maxHeartbeats 4000000
namespace K32
open PySem L2
abbrev KV := List (Option Kd)
/-- a part is done: its kind goes to the part around it -/
def accept (k : Kd) : List Fr → List Fr
  | [] => []
  | f :: r => { f with got := f.got ++ [k] } :: r
/-- all that is done behind a part -/
inductive Fnsh (l : List Nd) : List Fr → KV → List Fr → KV → Prop
  | nil {kv : KV} : Fnsh l [] kv [] kv
  | stop {f : Fr} {fs : List Fr} {kv : KV} {n : Nd} : l[f.pos]? = some n → f.got.length < n.binds.length → Fnsh l (f :: fs) kv (f :: fs) kv
  | pop {f : Fr} {fs fs' : List Fr} {kv kv' : KV} {n : Nd} {k : Kd} : l[f.pos]? = some n → ¬ f.got.length < n.binds.length → (∀ k ∈ f.got, k.deep ≤ 100) → kindBy n f.got = some k → f.pos < kv.length → Fnsh l (accept k fs) (kv.set f.pos (some k)) fs' kv' → Fnsh l (f :: fs) kv fs' kv'
theorem kb_len {n : Nd} {ks : List Kd} {k : Kd} (h : kindBy n ks = some k) : ks.length ≤ 3 := by
  cases n with
  | name i => cases h
  | told i => cases h
  | fn A => obtain ⟨_, rfl, _⟩ := kb_fn h; simp
  | call => obtain ⟨_, rfl⟩ := kb_call h; simp
  | both => obtain ⟨_, _, rfl, _⟩ := kb_both h; simp
  | first => obtain ⟨_, rfl⟩ := kb_first h; simp
  | second => obtain ⟨_, rfl⟩ := kb_second h; simp
  | left B => obtain ⟨_, rfl, _⟩ := kb_left h; simp
  | right A => obtain ⟨_, rfl, _⟩ := kb_right h; simp
  | which => obtain ⟨_, _, rfl⟩ := kb_which h; simp
  | next => obtain ⟨rfl, _⟩ := kb_next h; simp
  | turns A => obtain ⟨rfl, _⟩ := kb_turns h; simp
  | lt => obtain ⟨_, rfl⟩ := kb_lt h; simp
theorem binds_len (n : Nd) : n.binds.length ≤ 3 := by cases n <;> simp [Nd.binds]
theorem Fnsh.top {l : List Nd} {f : Fr} {fs fs' : List Fr} {kv kv' : KV} (h : Fnsh l (f :: fs) kv fs' kv') : f.got.length ≤ 3 := by
  cases h with
  | stop h1 h2 => have := binds_len ‹Nd›; omega
  | pop _ _ _ h3 _ _ => exact kb_len h3
def kvd : Option Kd → Lo
  | none => .d .none
  | some k => .d k.enc
def kvL (kv : KV) : List Lo := kv.map kvd
def frs (as : List A3) : List Lo := (as.map fun a => Lo.v (.ref a.1)).reverse
def stk (K : PySem.W.Frag) : List A3 → List Fr → Owns
  | a :: as, f :: fs => frO K a f ++ stk K as fs
  | _, _ => []
theorem frs_cons (a : A3) (as : List A3) : frs (a :: as) = frs as ++ [.v (.ref a.1)] := by unfold frs; rw [List.map_cons, List.reverse_cons]
theorem frs_len (as : List A3) : (frs as).length = as.length := by unfold frs; rw [List.length_reverse, List.length_map]
theorem kvL_len (kv : KV) : (kvL kv).length = kv.length := List.length_map _
theorem kvL_set (kv : KV) (i : Nat) (k : Kd) : (kvL kv).set i (.d k.enc) = kvL (kv.set i (some k)) := by unfold kvL; rw [List.map_set]; rfl
theorem kl_app (ks : List Kd) (k : Kd) : kl ks ++ [.d k.enc] = kl (ks ++ [k]) := by unfold kl; rw [List.map_append, List.map_append]; rfl
section
variable {P : Program} {w : World} {K : PySem.W.Frag} {mg : Str → Option Value} {base : Heap}
def stM (K : PySem.W.Frag) (fp kp : Addr) (as : List A3) (fs : List Fr) (kv : KV) : Owns := (fp, .lst (frs as)) :: (kp, .lst (kvL kv)) :: stk K as fs
def R_finished (K : PySem.W.Frag) : Owns → List Lo → Post → Prop := fun M ls Po => ∃ (fp kp : Addr) (as : List A3) (e : PyData) (l : List Nd) (fs fs' : List Fr) (kv kv' : KV), M = stM K fp kp as fs kv ∧ as.length = fs.length ∧ ls = [.d e, .v (.ref fp), .v (.ref kp)] ∧ SeqD e (encs l) ∧ Fnsh l fs kv fs' kv' ∧
  Po = fun M' lo => (∃ as', M' = stM K fp kp as' fs' kv' ∧ as'.length = fs'.length) ∧ lo = .d .none
theorem d_finished (T : Tx w K mg) : Def P w K mg base CX0 "finished" 7 ["nodes", "frames", "kinds"] (spO K (R_finished K)) := by
  refine def_O (f_finished T) (g_finished T) sc_finished (fun _ _ _ _ _ _ us hl => match us, hl with | [_, _, _], _ => rfl) (fun M ls Po h => by obtain ⟨fp, kp, as, e, l, fs, fs', kv, kv', rfl, hl, rfl, he, hF, rfl⟩ := h; rfl) fun cdv A outer s H E hr M ls Po h O D hD hq => ?_
  obtain ⟨fp, kp, as, e, l, fs, fs', kv, kv', rfl, hl, rfl, he, hF, rfl⟩ := h
  refine go_while (α := List A3 × List Fr × KV) (fun q => stM K fp kp q.1 q.2.1 q.2.2) (fun q => [.d e, .v (.ref fp), .v (.ref kp), .no, .no, .no]) (fun q => q.2.1.length) (as, fs, kv) rfl rfl (fun q => q.1.length = q.2.1.length ∧ Fnsh l q.2.1 q.2.2 fs' kv') ⟨hl, hF⟩ ?_
  rintro ⟨as, fs, kv⟩ ⟨hl, hF⟩
  dsimp only at hl hF
  cases hF with
  | nil =>
    left
    have : as = [] := List.length_eq_zero_iff.mp hl
    subst this
    exact ⟨et_b (et_gt (ed_lenO (b_len T) (ed_v 1) (.head _)) ed_int), go_nilO hD hq ⟨⟨[], rfl, rfl⟩, rfl⟩⟩
  | @stop f fs kv n h1 h2 =>
    right
    cases as with
    | nil => cases hl
    | cons a as =>
    refine ⟨et_b (et_gt (ed_lenO (b_len T) (ed_v 1) (.head _)) ed_int) (by rw [frs_len]; simp), fun N hN hrt hbk => ?_⟩
    refine go_asg 3 sc_finished.nd (ed_ixO (l := .v (.ref a.1)) (ed_v 1) (.head _) (ed_neg ed_int) (by rw [frs_cons]; exact atI_last)) ?_
    refine go_asg 4 sc_finished.nd (ed_ixS (ed_v 0) he (ed_fld (ed_v 3) (.tail _ (.tail _ (.tail _ (.head _)))) rfl T.frCls T.frP) (encs_get h1)) ?_
    refine go_take (et_b (et_lt (ed_lenO (b_len T) (ed_fld (ed_v 3) (.tail _ (.tail _ (.tail _ (.head _)))) rfl T.frCls T.frS) (.tail _ (.tail _ (.head _)))) (ed_lenT (b_len T) (ed_binds T (ed_word (ed_v 4))))) (by rw [kl_len, intsD_len]; simpa using h2)) ?_
    exact go_ret0 (P := fun M' lo => (∃ as', M' = stM K fp kp as' (f :: fs) kv' ∧ as'.length = (f :: fs).length) ∧ lo = .d .none) (fun B H M ρ σ v l S r hp => by rw [show (thn _ N _).rt = N.rt from rfl, hrt]; exact hq B H M ρ σ v l S r hp) ⟨⟨a :: as, rfl, hl⟩, rfl⟩
  | @pop f fs _ kv _ n k h1 h2 h3 h4 h5 h6 =>
    right
    cases as with
    | nil => cases hl
    | cons a as =>
    refine ⟨et_b (et_gt (ed_lenO (b_len T) (ed_v 1) (.head _)) ed_int) (by rw [frs_len]; simp), fun N hN hrt hbk => ?_⟩
    refine go_asg 3 sc_finished.nd (ed_ixO (l := .v (.ref a.1)) (ed_v 1) (.head _) (ed_neg ed_int) (by rw [frs_cons]; exact atI_last)) ?_
    refine go_asg 4 sc_finished.nd (ed_ixS (ed_v 0) he (ed_fld (ed_v 3) (.tail _ (.tail _ (.tail _ (.head _)))) rfl T.frCls T.frP) (encs_get h1)) ?_
    refine go_skip (et_b (et_lt (ed_lenO (b_len T) (ed_fld (ed_v 3) (.tail _ (.tail _ (.tail _ (.head _)))) rfl T.frCls T.frS) (.tail _ (.tail _ (.head _)))) (ed_lenT (b_len T) (ed_binds T (ed_word (ed_v 4))))) (by rw [kl_len, intsD_len]; simpa using h2)) ?_
    refine go_popE 0 (l := .v (.ref a.1)) (ls := frs as) (ed_v 1) (by rw [← frs_cons]; rfl) ?_
    refine go_asg 5 sc_finished.nd (ed_callO (l := .d k.enc) [(a.2.2, .lst (kl f.got))] _ (d_kind_by T) hr (ea_cons (ed_v 4) (ea_cons (ed_fld (ed_v 3) (.tail _ (.tail _ (.tail _ (.head _)))) rfl T.frCls T.frS) ea_nil)) (perm_at (j := 2) rfl) ⟨a.2.2, n, f.got, k, rfl, rfl, h4, h3, rfl⟩ fun M' l' h => h) ?_
    refine go_skip (et_b (et_isNone (ed_v 5)) (by cases k <;> rfl)) ?_
    refine go_setItem 1 (q := f.pos) (ed_v 5) (ed_v 2) rfl (ed_fld (ed_v 3) (.tail _ (.tail _ (.tail _ (.head _)))) rfl T.frCls T.frP) (by rw [kvL_len]; exact h5) ?_
    refine Go.drop (M' := stM K fp kp as fs (kv.set f.pos (some k))) ?_ ?_
    · have hl' : as.length = fs.length := by simpa using hl
      cases fs with
      | nil =>
        have : as = [] := List.length_eq_zero_iff.mp hl'
        subst this
        refine go_skip (et_b (et_gt (ed_lenO (b_len T) (ed_v 1) (.head _)) ed_int)) ?_
        refine go_nil fun B σ H' S' => hN ([], [], kv.set f.pos (some k)) ⟨rfl, h6⟩ ?_ B σ H' (S'.wk ?_)
        · exact Nat.zero_lt_succ _
        · repeat' (first | exact Paired.nil | refine Paired.cons (.inr rfl) ?_ | refine Paired.cons (.inl rfl) ?_)
      | cons f2 fs =>
        cases as with
        | nil => cases hl'
        | cons a2 as =>
        refine go_take (et_b (et_gt (ed_lenO (b_len T) (ed_v 1) (.head _)) ed_int) (by rw [frs_len]; simp)) ?_
        have h3 : (f2.got ++ [k]).length ≤ 3 := h6.top
        rw [List.length_append] at h3
        refine go_append 2 0 (ed_fld (l := .v (.ref a2.2.2)) (ed_ixO (l := .v (.ref a2.1)) (ed_v 1) (.head _) (ed_neg ed_int) (by rw [frs_cons]; exact atI_last)) (.tail _ (.tail _ (.tail _ (.head _)))) rfl T.frCls T.frS) rfl (ed_v 5) (by rw [kl_len]; omega) ?_
        refine go_thn (go_nil fun B σ H' S' => hN (a2 :: as, accept k (f2 :: fs), kv.set f.pos (some k)) ⟨hl', h6⟩ ?_ B σ H' ?_)
        · exact Nat.lt_succ_self _
        · have z := S'.wk (ρ' := [.d e, .v (.ref fp), .v (.ref kp), .no, .no, .no]) (by repeat' (first | exact Paired.nil | refine Paired.cons (.inr rfl) ?_ | refine Paired.cons (.inl rfl) ?_))
          rw [kl_app] at z
          exact z
    · show List.Sublist ((fp, Own.lst (frs as)) :: (kp, Own.lst (kvL (kv.set f.pos (some k)))) :: stk K as fs) ((fp, Own.lst (frs as)) :: (kp, Own.lst ((kvL kv).set f.pos (.d k.enc))) :: (a.2.2, Own.lst (kl f.got)) :: (a.1, Own.ins (frC K) a.2.1 (frF (.int f.pos) (encRow f.row) a.2.2)) :: stk K as fs)
      rw [kvL_set]
      exact List.Sublist.cons₂ _ (List.Sublist.cons₂ _ (List.Sublist.cons _ (List.Sublist.cons _ (List.Sublist.refl _))))
end
end K32

set_option maxRecDepth 100000
set_option maxHeartbeats 4000000
namespace K32
open PySem L2
def rowAt (l : List Nd) : List Fr → Option (List Kd)
  | [] => some []
  | f :: _ => (l[f.pos]?).bind fun n => rowNext n f
def LeafK (n : Nd) (Γ : List Kd) (k : Kd) : Prop := (∃ j, n = .name j ∧ Γ[j]? = some k ∧ j ≤ 1000) ∨ ∃ j, n = .told j ∧ k = .cnt
/-- one node of the row -/
inductive Trn (l : List Nd) (i : Nat) : List Fr → KV → List Fr → KV → Prop
  | node {n : Nd} {Γ : List Kd} {fs : List Fr} {kv : KV} : l[i]? = some n → rowAt l fs = some Γ → 0 < n.binds.length → Trn l i fs kv (⟨i, Γ, []⟩ :: fs) kv
  | leaf {n : Nd} {Γ : List Kd} {fs fs' : List Fr} {kv kv' : KV} {k : Kd} : l[i]? = some n → rowAt l fs = some Γ → n.binds.length = 0 → LeafK n Γ k → i < kv.length → Fnsh l (accept k fs) (kv.set i (some k)) fs' kv' → Trn l i fs kv fs' kv'
theorem Trn.split {l : List Nd} {i : Nat} {fs fs1 : List Fr} {kv kv1 : KV} (h : Trn l i fs kv fs1 kv1) : ∃ n Γ, l[i]? = some n ∧ rowAt l fs = some Γ ∧ ((0 < n.binds.length ∧ fs1 = ⟨i, Γ, []⟩ :: fs ∧ kv1 = kv) ∨ (n.binds.length = 0 ∧ ∃ k, LeafK n Γ k ∧ i < kv.length ∧ Fnsh l (accept k fs) (kv.set i (some k)) fs1 kv1)) := by
  cases h with
  | node h1 h2 h3 => exact ⟨_, _, h1, h2, .inl ⟨h3, rfl, rfl⟩⟩
  | leaf h1 h2 h3 h4 h5 h6 => exact ⟨_, _, h1, h2, .inr ⟨h3, _, h4, h5, h6⟩⟩
theorem accept_len (k : Kd) (fs : List Fr) : (accept k fs).length = fs.length := by cases fs <;> rfl
theorem Fnsh.len {l : List Nd} {fs fs' : List Fr} {kv kv' : KV} (h : Fnsh l fs kv fs' kv') : fs'.length ≤ fs.length := by
  induction h with
  | nil => exact Nat.le_refl _
  | stop => exact Nat.le_refl _
  | pop _ _ _ _ _ _ ih => rw [accept_len] at ih; exact Nat.le_succ_of_le ih
theorem Trn.len {l : List Nd} {i : Nat} {fs fs1 : List Fr} {kv kv1 : KV} (h : Trn l i fs kv fs1 kv1) : fs1.length ≤ fs.length + 1 := by
  cases h with
  | node => exact Nat.le_refl _
  | leaf _ _ _ _ _ h => have := h.len; rw [accept_len] at this; omega
/-- the row has these kinds -/
def KindsR (l : List Nd) (ks : List Kd) : Prop := ∃ ch : Nat → List Fr × KV, ch 0 = ([], List.replicate l.length none) ∧ (∀ i, i < l.length → Trn l i (ch i).1 (ch i).2 (ch (i + 1)).1 (ch (i + 1)).2) ∧ ch l.length = ([], ks.map some)
section
variable {P : Program} {w : World} {K : PySem.W.Frag} {mg : Str → Option Value} {base : Heap}
theorem it_enumS {X : Cx} {O : Og} {M : Owns} {ρ : List Lo} {a : Expr} {pos p1 : Pos} {d : PyData} {ds : List PyData} {elts : List Expr} {kk : Nat} {tpos : Pos} (hm : X.mg "enumerate" = none) (ha : Ed X O M ρ a (.d d)) (hd : SeqD d ds) (hg : Gl X "enumerate" := by rfl) (hs : starEach [a] X.env = [(false, eval a X.env)] := by rfl) (hs1 : starEach [a] X.env = (false, eval a X.env) :: starEach [] X.env := by rfl) :
    Iter X O M ρ (.Tuple elts kk tpos) (.Call (.Name "enumerate" p1) [a] [] pos) ds.length (fun i => .tuple [.int i, ds.getD i .none]) := by
  rcases hd with rfl | rfl
  · exact it_enum hm ha hg hs hs1
  · exact it_enumT hm ha hg hs hs1
theorem kvL_some (ks : List Kd) : kvL (ks.map some) = (ks.map Kd.enc).map .d := by unfold kvL; rw [List.map_map, List.map_map]; rfl
theorem kvL_none (n : Nat) : kvL (List.replicate n none) = List.replicate n (.d .none) := by unfold kvL; rw [List.map_replicate]; rfl
theorem go_turnXW {X : Cx} {O : Og} {M : Owns} {ρ ρ' : List Lo} {D : Ends} {rest : List Stmt} {I : Owns → List Lo → Prop} (h : I M ρ') (w : Wk ρ ρ' := by repeat' (first | exact Paired.nil | refine Paired.cons (.inr rfl) ?_ | refine Paired.cons (.inl rfl) ?_)) : Go X O M ρ (lpX X O D rest I) [] := go_nil fun B σ H S => ⟨B, M, ρ', h, S.wk w⟩
theorem go_try {X : Cx} {O : Og} {M : Owns} {ρ : List Lo} {D : Ends} {rest body : List Stmt} {h0 : ExceptHandler} {hs : List ExceptHandler} {pos : Pos} (k : Go X O M ρ (thn X D rest) body) (hx : X.nox = X := by rfl) : Go X O M ρ D (.Try body (h0 :: hs) [] [] pos :: rest) :=
  go_cons fun B σ H S => wS_of (ps_try_thru0 (by rw [hx]; exact pss_w)) (k B σ H S)
def R_kinds : List PyData → PyData → Prop := fun ds d => ∃ e l ks, ds = [.list [], e] ∧ SeqD e (encs l) ∧ l.length ≤ 1000 ∧ KindsR l ks ∧ d = .list (ks.map Kd.enc)
theorem d_kinds_of (T : Tx w K mg) : Def P w K mg base CX0 "kinds_of" 8 ["names", "nodes"] (spR K R_kinds) := by
  refine def_R (f_kinds_of T) (g_kinds_of T) sc_kinds_of (fun _ _ _ _ _ _ us hl => match us, hl with | [_, _], _ => rfl) (fun ds d h => by obtain ⟨e, l, ks, rfl, he, hz, ⟨ch, hc0, hc, hcn⟩, rfl⟩ := h; rfl) fun cdv A outer s H E hr ds d h O D hD hq => ?_
  obtain ⟨e, l, ks, rfl, he, hz, ⟨ch, hc0, hc, hcn⟩, rfl⟩ := h
  obtain ⟨fdI, FI, BI⟩ := d_init (P := P) (mg := mg) (base := base) T
  refine go_par3 3 4 5 sc_kinds_of.nd (ac_l (el_lc 2 (ls := fun _ => .d .none) rfl sc_kinds_of.nd (it_seq (ed_v 1) he) (blkOk_by (N := N_kinds_of) (sc := defScope s_kinds_of) (own := [("node", 2)]) (by decide +kernel)) (fun _ _ _ _ _ => pg_name (i := 2) sc_kinds_of.nd rfl (.inl rfl))
    (by rw [encs_len]; omega) (fun L p w' k hk s' H' C' cl fp => ed_non)) fun kp hkp => ac_l (el_lst (ls := []) ea_nil) fun fp hfp => ac_d (ed_callR (ds := [.list []]) ((d_row_of T).up (by decide)) hr (ea_cons (ed_v 0) ea_nil) ⟨rfl, rfl⟩) ac_nil) ?_
  rintro M' ls ⟨kp, r, hkp, rfl, fp, _, hfp, rfl, _, rfl, rfl, rfl⟩
  refine ⟨_, _, _, rfl, ?_⟩
  refine go_forX (fun i M ρ => ∃ as, M = stM K fp kp as (ch i).1 (ch i).2 ∧ as.length = (ch i).1.length ∧ ρ = [.d (.list []), .d e, .no, .v (.ref kp), .v (.ref fp), .d .none, .no, .no, .no])
    (it_enumS (b_enumerate T) (ed_v 1) he) (pg_tup rfl (pgs_cons (pg_name (i := 6) sc_kinds_of.nd rfl (.inl rfl)) (pgs_cons (pg_name (i := 2) sc_kinds_of.nd rfl (.inl rfl)) pgs_nil))) ⟨[], ?_, by rw [hc0]; rfl, rfl⟩ ?_ ?_
  · rw [hc0]
    show _ = [(fp, Own.lst (frs [])), (kp, Own.lst (kvL (List.replicate l.length none)))]
    rw [kvL_none, encs_len, List.map_const', List.length_range]
    rfl
  · rintro L i hi Mi ρi ⟨as, rfl, hl, rfl⟩
    rw [encs_len] at hi
    have ht := hc i hi
    have hcl : ∀ j, j ≤ l.length → (ch j).1.length ≤ j := fun j => by
      induction j with
      | zero => intro _; rw [hc0]; exact Nat.le_refl _
      | succ j ih => intro hj; have h1 := ih (by omega); have h2 := (hc j (by omega)).len; omega
    have hcl := hcl i (by omega)
    generalize hI : (fun (M : Owns) (ρ : List Lo) => ∃ as, M = stM K fp kp as (ch (i + 1)).1 (ch (i + 1)).2 ∧ as.length = (ch (i + 1)).1.length ∧ ρ = [Lo.d (.list []), Lo.d e, Lo.no, Lo.v (.ref kp), Lo.v (.ref fp), Lo.d .none, Lo.no, Lo.no, Lo.no]) = I
    have hIn : ∀ as M, M = stM K fp kp as (ch (i + 1)).1 (ch (i + 1)).2 → as.length = (ch (i + 1)).1.length → I M [Lo.d (.list []), Lo.d e, Lo.no, Lo.v (.ref kp), Lo.v (.ref fp), Lo.d .none, Lo.no, Lo.no, Lo.no] := fun as M h1 h2 => by rw [← hI]; exact ⟨as, h1, h2, rfl⟩
    clear hI
    generalize (ch i).1 = fs at *
    generalize (ch i).2 = kv at *
    generalize (ch (i + 1)).1 = fs1 at *
    generalize (ch (i + 1)).2 = kv1 at *
    obtain ⟨n, Γ, hn, hΓ, hcase⟩ := ht.split
    refine ⟨_, tg_two 6 2, ?_⟩
    rw [encs_getD hn]
    refine go_asg (l := .d (encRow Γ)) 7 sc_kinds_of.nd ?_ ?_
    · cases fs with
      | nil =>
        have : as = [] := List.length_eq_zero_iff.mp hl
        subst this
        cases hΓ
        exact ed_ifF (et_gt (ed_lenO (b_len T) (ed_v 4) (.head _)) ed_int) rfl (ed_v 5)
      | cons f fs =>
        cases as with
        | nil => cases hl
        | cons a as =>
        refine ed_ifT (et_gt (ed_lenO (b_len T) (ed_v 4) (.head _)) ed_int) (by rw [frs_len]; simp) ?_
        have hΓ : (l[f.pos]?).bind (fun n => rowNext n f) = some Γ := hΓ
        cases h1 : l[f.pos]? with
        | none => rw [h1] at hΓ; cases hΓ
        | some m =>
          rw [h1] at hΓ
          exact ed_callO (l := .d (encRow Γ)) (frO K a f) _ ((d_next_row T).up (by decide)) hr (ea_cons (ed_v 1) (ea_cons (ed_ixO (l := .v (.ref a.1)) (ed_v 4) (.head _) (ed_neg ed_int) (by rw [frs_cons]; exact atI_last)) ea_nil)) (List.perm_append_comm_assoc [_, _] (frO K a f) _) ⟨a, f, e, l, m, Γ, rfl, rfl, he, h1, hΓ, rfl⟩ fun M' l h => h
    · rcases hcase with ⟨hb, rfl, rfl⟩ | ⟨hb, k, hk, hik, hF⟩
      · refine go_take (et_b (et_gt (ed_lenT (b_len T) (ed_binds T (ed_word (ed_v 2)))) ed_int) (by rw [intsD_len]; simpa using hb)) ?_
        refine go_appendX (P := fun M' l => ∃ a : A3, M' = frO K a ⟨i, Γ, []⟩ ++ stM K fp kp as fs kv1 ∧ l = .v (.ref a.1)) (ed_v 4) (.head _) (ex_make T.frMk FI (hr.mono (by decide)) (g_Frame T) BI (ea_cons (ed_v 6) (ea_cons (ed_v 7) ea_nil)) fun p dx => ⟨_, ⟨p, dx, _, _, rfl, rfl, rfl⟩, fun M' l h => ?_⟩) ?_
        · obtain ⟨⟨sa, rfl⟩, rfl⟩ := h
          exact ⟨rfl, (p, dx, sa), rfl, rfl⟩
        · rintro M' l ⟨a, rfl, rfl⟩
          refine ⟨2, frs as, rfl, by rw [frs_len]; omega, ?_⟩
          refine go_thn (Go.perm (M' := stM K fp kp (a :: as) (⟨i, Γ, []⟩ :: fs) kv1) ?_ ?_)
          · exact go_turnXW (hIn (a :: as) _ rfl (by simp [hl]))
          · show List.Perm (frO K a ⟨i, Γ, []⟩ ++ ([(fp, Own.lst (frs as ++ [.v (.ref a.1)])), (kp, Own.lst (kvL kv1))] ++ stk K as fs)) ((fp, Own.lst (frs (a :: as))) :: (kp, Own.lst (kvL kv1)) :: (frO K a ⟨i, Γ, []⟩ ++ stk K as fs))
            rw [frs_cons]
            exact List.perm_append_comm_assoc (frO K a ⟨i, Γ, []⟩) [_, _] _
      · refine go_if (k := false) (et_b (et_gt (ed_lenT (b_len T) (ed_binds T (ed_word (ed_v 2)))) ed_int) (by rw [intsD_len]; simp [hb])) (fun z => by cases z) fun _ => ?_
        refine go_asg (l := .d k.enc) 8 sc_kinds_of.nd (ed_callR (ds := [n.enc, encRow Γ]) ((d_kind_of_leaf T).up (by decide)) hr (ea_cons (ed_v 2) (ea_cons (ed_v 7) ea_nil)) ⟨Γ, n, k, rfl, hk, rfl⟩) ?_
        refine go_skip (et_b (et_isNone (ed_v 8)) (by cases k <;> rfl)) ?_
        refine go_setItem 1 (q := i) (ed_v 8) (ed_v 3) rfl (ed_v 6) (by rw [kvL_len]; exact hik) ?_
        rw [show ((stM K fp kp as fs kv).set 1 (kp, Own.lst ((kvL kv).set i (.d k.enc)))) = stM K fp kp as fs (kv.set i (some k)) by rw [kvL_set]; rfl]
        cases fs with
        | nil =>
          have : as = [] := List.length_eq_zero_iff.mp hl
          subst this
          refine go_skip (et_b (et_gt (ed_lenO (b_len T) (ed_v 4) (.head _)) ed_int)) ?_
          refine go_dropX (P := fun M' l => ∃ as', M' = stM K fp kp as' fs1 kv1 ∧ as'.length = fs1.length) (ex_call (d_finished T) hr (ea_cons (ed_v 1) (ea_cons (ed_v 4) (ea_cons (ed_v 3) ea_nil))).ac ?_) fun M' lo h => ?_
          · rintro M1 ls ⟨rfl, rfl⟩
            refine ⟨_, [], _, List.Perm.of_eq (List.append_nil _).symm, ⟨fp, kp, [], e, l, [], fs1, kv.set i (some k), kv1, rfl, rfl, rfl, he, hF, rfl⟩, fun M' lo h => ?_⟩
            rw [List.append_nil]
            exact h.1
          · obtain ⟨as', rfl, hl'⟩ := h
            exact go_thn (go_turnXW (hIn as' _ rfl hl'))
        | cons f fs =>
          cases as with
          | nil => cases hl
          | cons a as =>
          refine go_take (et_b (et_gt (ed_lenO (b_len T) (ed_v 4) (.head _)) ed_int) (by rw [frs_len]; simp)) ?_
          have h3 : (f.got ++ [k]).length ≤ 3 := hF.top
          rw [List.length_append] at h3
          refine go_append 2 0 (ed_fld (l := .v (.ref a.2.2)) (ed_ixO (l := .v (.ref a.1)) (ed_v 4) (.head _) (ed_neg ed_int) (by rw [frs_cons]; exact atI_last)) (.tail _ (.tail _ (.tail _ (.head _)))) rfl T.frCls T.frS) rfl (ed_v 8) (by rw [kl_len]; omega) ?_
          rw [kl_app]
          refine go_thn (go_dropX (P := fun M' l => ∃ as', M' = stM K fp kp as' fs1 kv1 ∧ as'.length = fs1.length) (ex_call (d_finished T) hr (ea_cons (ed_v 1) (ea_cons (ed_v 4) (ea_cons (ed_v 3) ea_nil))).ac ?_) fun M' lo h => ?_)
          · rintro M1 ls ⟨rfl, rfl⟩
            refine ⟨_, [], _, List.Perm.of_eq (List.append_nil _).symm, ⟨fp, kp, a :: as, e, l, accept k (f :: fs), fs1, kv.set i (some k), kv1, rfl, hl, rfl, he, hF, rfl⟩, fun M' lo h => ?_⟩
            rw [List.append_nil]
            exact h.1
          · obtain ⟨as', rfl, hl'⟩ := h
            exact go_thn (go_turnXW (hIn as' _ rfl hl'))
  · rintro Mi ρi ⟨as, rfl, hl, rfl⟩
    rw [encs_len, hcn] at hl ⊢
    have : as = [] := List.length_eq_zero_iff.mp hl
    subst this
    refine go_freeze (ds := ks.map Kd.enc) 1 3 hkp ?_ (by show some (kp, Own.lst (kvL (ks.map some))) = _; rw [kvL_some])
    exact go_ret (ed_v 3) hq
end
end K32

set_option maxRecDepth 100000
set_option maxHeartbeats 4000000
namespace K32
open PySem L2
structure Prog (l : List Nd) (ks : List Kd) : Prop where
  tree : TreeL l
  pos : 1 ≤ l.length
  most : l.length ≤ 300
  ok : ∀ n ∈ l, n.ok = true
  kinds : KindsR l ks
section
variable {P : Program} {w : World} {K : PySem.W.Frag} {mg : Str → Option Value} {base : Heap}
theorem d_fitting_kinds (T : Tx w K mg) : Def P w K mg base CX0 "fitting_kinds" 9 ["names", "nodes"] (spR K R_kinds) := by
  refine def_R (f_fitting_kinds T) (g_fitting_kinds T) sc_fitting_kinds (fun _ _ _ _ _ _ us hl => match us, hl with | [_, _], _ => rfl) (fun ds d h => by obtain ⟨e, l, ks, rfl, he, hz, hk, rfl⟩ := h; rfl) fun cdv A outer s H E hr ds d h O D hD hq => ?_
  obtain ⟨e, l, ks, rfl, he, hz, hk, rfl⟩ := h
  exact go_try (go_ret (ed_callR (ds := [.list [], e]) (d_kinds_of T) hr (ea_cons (ed_v 0) (ea_cons (ed_v 1) ea_nil)) ⟨e, l, ks, rfl, he, hz, hk, rfl⟩) hq)
def R_isprog : List PyData → PyData → Prop := fun ds d => ∃ e l ks, ds = [e] ∧ SeqD e (encs l) ∧ Prog l ks ∧ d = .bool true
theorem d_is_program (T : Tx w K mg) : Def P w K mg base CX0 "is_program" 10 ["value"] (spR K R_isprog) := by
  refine def_R (f_is_program T) (g_is_program T) sc_is_program (fun _ _ _ _ _ _ us hl => match us, hl with | [_], _ => rfl) (fun ds d h => by obtain ⟨e, l, ks, rfl, he, hp, rfl⟩ := h; rfl) fun cdv A outer s H E hr ds d h O D hD hq => ?_
  obtain ⟨e, l, ks, rfl, he, hp, rfl⟩ := h
  refine go_ret (ed_b (ed_and (k := true) (k' := true) (ed_callR (ds := [e]) ((d_is_term T).up (by decide)) hr (ea_cons (ed_v 0) ea_nil) ⟨e, l, rfl, he, hp.tree, hp.pos, hp.most, hp.ok, rfl⟩) fun _ =>
    ed_b (ed_notNone (ed_callR (ds := [.list [], e]) (d_fitting_kinds T) hr (ea_cons (ed_lst (ds := []) ea_nil) (ea_cons (ed_v 0) ea_nil)) ⟨e, l, ks, rfl, he, by have := hp.most; omega, hp.kinds, rfl⟩)) rfl)) hq
def R_wprog : List PyData → PyData → Prop := fun ds d => ∃ e l ks, ds = [e] ∧ SeqD e (encs l) ∧ Prog l ks ∧ d = .list (encs l)
theorem d_want_program (T : Tx w K mg) : Def P w K mg base CX0 "want_program" 11 ["value"] (spR K R_wprog) := by
  refine def_R (f_want_program T) (g_want_program T) sc_want_program (fun _ _ _ _ _ _ us hl => match us, hl with | [_], _ => rfl) (fun ds d h => by obtain ⟨e, l, ks, rfl, he, hp, rfl⟩ := h; rfl) fun cdv A outer s H E hr ds d h O D hD hq => ?_
  obtain ⟨e, l, ks, rfl, he, hp, rfl⟩ := h
  refine go_skip (et_b (et_not (et_v (ed_callR (ds := [e]) (d_is_program T) hr (ea_cons (ed_v 0) ea_nil) ⟨e, l, ks, rfl, he, hp, rfl⟩))) rfl) ?_
  exact go_ret (El.ed (el_list he (b_list T) (ed_v 0))) hq
def R_pkind : List PyData → PyData → Prop := fun ds d => ∃ e l ks k, ds = [e] ∧ SeqD e (encs l) ∧ Prog l ks ∧ ks[0]? = some k ∧ d = k.enc
theorem d_program_kind (T : Tx w K mg) : Def P w K mg base CX0 "program_kind" 12 ["program"] (spR K R_pkind) := by
  refine def_R (f_program_kind T) (g_program_kind T) sc_program_kind (fun _ _ _ _ _ _ us hl => match us, hl with | [_], _ => rfl) (fun ds d h => by obtain ⟨e, l, ks, k, rfl, he, hp, hk, rfl⟩ := h; rfl) fun cdv A outer s H E hr ds d h O D hD hq => ?_
  obtain ⟨e, l, ks, k, rfl, he, hp, hk, rfl⟩ := h
  exact go_ret (ed_ixL (ed_callR (ds := [.list [], .list (encs l)]) ((d_kinds_of T).up (by decide)) hr (ea_cons (ed_lst (ds := []) ea_nil) (ea_cons (ed_callR (ds := [e]) (d_want_program T) hr (ea_cons (ed_v 0) ea_nil) ⟨e, l, ks, rfl, he, hp, rfl⟩) ea_nil)) ⟨_, l, ks, rfl, .inl rfl, by have := hp.most; omega, hp.kinds, rfl⟩) ed_int (atI_nat (j := 0) (by rw [List.getElem?_map, hk]; rfl))) hq
/-- a place that is held by what is around it -/
def heldL (l : List Nd) : List Bool := (List.range l.length).map fun i => match i with
  | 0 => false
  | j + 1 => match l[j]? with
    | some .call | some .first | some .second => true
    | _ => false
end
end K32

set_option maxRecDepth 100000
set_option maxHeartbeats 4000000
namespace K32
open PySem L2
/-! ## 18. The tables WANTED, OPENED -/
theorem absent_of {P : Params} {z : Str} : ∀ {l : List DictEntry} {ks : List Str}, l.map He.keyOf = He.keysIn P ks → z ∉ ks → l.find? (·.key.isStr z) = none ∧ l.any (·.refKey) = false
  | [], _, _, _ => ⟨rfl, rfl⟩
  | e :: r, [], h, _ => by cases h
  | e :: r, k :: ks, h, hz => by
    have h1 : He.keyOf e :: r.map He.keyOf = some (k, PyData.keyHash P k) :: He.keysIn P ks := h
    injection h1 with h2 h3
    obtain ⟨i1, i2⟩ := absent_of h3 fun q => hz (List.mem_cons_of_mem _ q)
    unfold He.keyOf at h2
    split at h2
    · rename_i x t q
      have h4 : x = k := (Prod.mk.inj (Option.some.inj h2)).1
      have h5 : (x == z) = false := by
        have : x ≠ z := fun y => hz (by rw [← y, h4]; exact List.mem_cons_self)
        simpa using this
      refine ⟨?_, ?_⟩
      · rw [List.find?_cons, q]
        show (match (x == z) with | true => some e | false => _) = none
        rw [h5]
        exact i1
      · rw [List.any_cons, i2]
        unfold DictEntry.refKey
        rw [q]
        rfl
    · cases h2
theorem absent {w : World} {K : PySem.W.Frag} {mg : Str → Option Value} (T : Tx w K mg) (i : Nat) {t : He.Tab} {z : Str} (h : tabs[i]? = some t) (hz : z ∉ t.2) : PySem.W.nsIn K (t.1 K) z = some none := by
  have c := T.tt
  have e : tabs.map (fun t => He.dicW K (t.1 K)) = tabs.map fun t => some (He.keysIn w.params t.2) := congrArg (fun z : He.AlT => z.2) c
  have e2 : (tabs.map fun t => He.dicW K (t.1 K))[i]? = (tabs.map fun t => some (He.keysIn w.params t.2))[i]? := by rw [e]
  rw [List.getElem?_map, List.getElem?_map, h] at e2
  have e3 : He.dicW K (t.1 K) = some (He.keysIn w.params t.2) := Option.some.inj e2
  unfold He.dicW at e3
  unfold PySem.W.nsIn
  cases q : K.lookup (t.1 K) with
  | none => rw [q] at e3; cases e3
  | some o =>
    rw [q] at e3
    obtain ⟨oc, od, dt, osl⟩ := o
    cases dt with
    | dict es n =>
      have h1 : es.toList.map He.keyOf = He.keysIn w.params t.2 := by
        cases oc with
        | type c =>
          cases od with
          | none =>
            dsimp only at e3
            split at e3
            · exact Option.some.inj e3
            · cases e3
          | some _ => cases e3
        | _ => cases od <;> cases e3
      obtain ⟨i1, i2⟩ := absent_of h1 hz
      dsimp only
      rw [i1]
      dsimp only
      rw [i2]
      rfl
    | _ => cases oc <;> cases od <;> cases e3
def wantW : Nd → Option (List Str)
  | .call => some ["fun"]
  | .first => some ["both"]
  | .second => some ["both"]
  | .which => some ["left", "right"]
  | .turns _ => some ["told"]
  | .next => some ["told"]
  | _ => none
theorem want_tab {w : World} {K : PySem.W.Frag} {mg : Str → Option Value} (T : Tx w K mg) {n : Nd} {ss : List Str} (h : wantW n = some ss) : ∃ a, PySem.W.nsIn K (He.ga K "WANTED") n.word = some (some (.ref a)) ∧ ∀ H, SqT K H a (ss.map V.str) := by
  cases n <;> cases h
  · exact ⟨_, tab_ok (vs := (["fun"] : List Str).map V.str) (T.xs 16)⟩
  · exact ⟨_, tab_ok (vs := (["both"] : List Str).map V.str) (T.xs 17)⟩
  · exact ⟨_, tab_ok (vs := (["both"] : List Str).map V.str) (T.xs 18)⟩
  · exact ⟨_, tab_ok (vs := (["left", "right"] : List Str).map V.str) (T.xs 19)⟩
  · exact ⟨_, tab_ok (vs := (["told"] : List Str).map V.str) (T.xs 21)⟩
  · exact ⟨_, tab_ok (vs := (["told"] : List Str).map V.str) (T.xs 20)⟩
theorem want_none {w : World} {K : PySem.W.Frag} {mg : Str → Option Value} (T : Tx w K mg) {n : Nd} (h : wantW n = none) : PySem.W.nsIn K (He.ga K "WANTED") n.word = some none := by
  refine absent T 1 (t := ((fun K => He.ga K "WANTED"), ["call", "first", "second", "which", "turns", "next"])) rfl ?_
  cases n <;> first | (cases h; done) | (simp only [Nd.word]; decide)
def opens : Kd → Option Str
  | .fn _ _ => some "fun"
  | .pr _ _ => some "both"
  | _ => none
theorem open_tab {w : World} {K : PySem.W.Frag} {mg : Str → Option Value} (T : Tx w K mg) (k : Kd) : (∀ {z}, opens k = some z → ∃ t, PySem.W.nsIn K (He.ga K "OPENED") k.word = some (some (.str z t))) ∧ (opens k = none → PySem.W.nsIn K (He.ga K "OPENED") k.word = some none) := by
  have ab : k.word ∉ (["fun", "pair"] : List Str) → PySem.W.nsIn K (He.ga K "OPENED") k.word = some none := fun h => absent T 2 (t := ((fun K => He.ga K "OPENED"), ["fun", "pair"])) rfl h
  cases k with
  | fn a b => exact ⟨fun {z} h => by cases h; exact tabs_ok (T.xs 22), fun h => by cases h⟩
  | pr a b => exact ⟨fun {z} h => by cases h; exact tabs_ok (T.xs 23), fun h => by cases h⟩
  | let_ i => exact ⟨fun {z} h => (by cases h), fun _ => ab (by simp only [Kd.word]; decide)⟩
  | cnt => exact ⟨fun {z} h => (by cases h), fun _ => ab (by simp only [Kd.word]; decide)⟩
  | sm a b => exact ⟨fun {z} h => (by cases h), fun _ => ab (by simp only [Kd.word]; decide)⟩
section
variable {X : Cx} {O : Og} {M : Owns} {ρ : List Lo} {e a b c : Expr} {es : List Expr} {l la lb : Lo} {pos p1 p2 p3 : Pos}
/-- a text in a list of texts, the list told up to its order -/
theorem ed_inEv {x : Str} {k : Bool} {Φ : Lo → Prop} (ha : Ed X O M ρ a (.d (.str x))) (hb : Ev X O M ρ b Φ) (h : ∀ l, Φ l → ∃ ss : List Str, l = .d (.list (ss.map .str)) ∧ ss.contains x = k) (hm : behindInMarks .In b = false := by rfl) : Ed X O M ρ (.Compare a [.In] [b] pos) (.d (.bool k)) :=
  fun B σ H S Q q => wE_of (pe_cmpR op_in_seq pe_w pe_w hm) (ha B σ H S _ fun v B1 H1 e1 S1 r1 => hb B1 σ H1 S1 _ fun y lo B2 H2 f e2 S2 r2 => by
    obtain ⟨ss, rfl, hk⟩ := h lo f
    cases r1
    cases r2 with
    | lst h1 h2 =>
      have e := da_strs h2
      subst e
      refine ⟨_, _, rfl, .inl (SqL.of (S2.bh _ _ h1)), rfl, flat_str ss, ?_⟩
      rw [inV_str, hk]
      exact q _ B2 H2 (e1.trans e2) S2 (.bl _))
theorem ev_sortedS {ss : List Str} (hm : X.mg "sorted" = none) (ha : Ed X O M ρ a (.d (.list (ss.map .str)))) (hz : ss.length < 64) (hg : Gl X "sorted" := by rfl) (hs : starEach [a] X.env = (false, eval a X.env) :: starEach [] X.env := by rfl) :
    Ev X O M ρ (.Call (.Name "sorted" p1) [a] [] pos) (fun l => ∃ ys : List Str, ys.Perm ss ∧ l = .d (.list (ys.map .str))) := fun B σ H S Q q =>
  wE_of (pe_callB cr_sortedS hg hm (by decide +kernel) pa_w (by decide) (by decide) hs rfl) ((ea_cons ha ea_nil hs) B σ H S _ fun vs B1 H1 e1 S1 r => by
    cases r with
    | cons r1 r =>
      cases r
      cases r1 with
      | lst h1 h2 =>
        have e := da_strs h2
        subst e
        refine ⟨_, ss, rfl, SqL.of (S1.bh _ _ h1), hz, fun ys p hp _ hn => ?_⟩
        exact q (.ref p) (.d (.list (ys.map .str))) (upd B1 p (.lst (ys.map V.str))) _ ⟨ys, hp, rfl⟩ (e1.trans fun b u z => by
          have hB : B1 p = none := by
            cases w : B1 p with
            | none => rfl
            | some u => rw [S1.bh _ _ w] at hn; cases hn
          rw [upd_ne (ne_of_none z hB)]; exact z) (S1.newD hn) (.lst upd_same (da_strs' ys)))
/-- d.get(k, x) of a table of texts -/
theorem ed_getK {d : Addr} {en : Array DictEntry} {n : Nat} {z x y : Str} {o e f : Expr} {apos cpos : Pos} (hu : Room64 X) (Dk : KDict X.K X.w d en n) (ho : Ed X O M ρ o (.v (.ref d))) (he : Ed X O M ρ e (.d (.str z))) (hf : Ed X O M ρ f (.d (.str x)))
    (hr : (∃ t, PySem.W.nsIn X.K d z = some (some (.str y t))) ∨ (PySem.W.nsIn X.K d z = some none ∧ y = x)) (m : M2 X o "get" apos e f cpos) : Ed X O M ρ (.Call (.Attribute o "get" apos) [e, f] [] cpos) (.d (.str y)) := fun B σ H S Q q => wE_mk fun pins s I => by
  refine wpAny_Call_method m.base m.few m.line PySem.F.plainAttrs_dict PySem.F.slot_dict_get PySem.F.type_dict_get (L2.thn (wE_at (ho B σ H S (fun v H1 => ∃ B1, v = .ref d ∧ Same B B1 ∧ Sit X.K O B1 M ρ σ H1) (fun v B1 H1 e1 S1 r1 => ⟨B1, r1, e1, S1⟩)) pins s I) fun u s1 z1 => ?_)
  obtain ⟨v1, H1, I1, rx, B1, rfl, e1, S1⟩ := z1
  obtain rfl : u = Value.ref d := rx
  have hat := I1.kIn _ _ Dk.at_
  refine ⟨⟨_, hat, rfl⟩, fun b hb => by cases hb; exact ⟨_, hat, rfl⟩, ?_⟩
  rw [m.trees]
  refine Calls.callWith_builtin rfl (Calls.evalArgs_plain (Calls.spliced_cons (L2.thn (wE_at (he B1 σ H1 S1 (fun v H2 => ∃ B2, v = .str z ∧ Same B B2 ∧ Sit X.K O B2 M ρ σ H2) (fun v B2 H2 e2 S2 r2 => by cases r2; exact ⟨B2, rfl, e1.trans e2, S2⟩)) pins s1 I1) fun iv s2 z2 => ?_)))
  obtain ⟨v2, H2, I2, ry, B2, rfl, e2, S2⟩ := z2
  refine Calls.spliced_cons (L2.thn (wE_at (hf B2 σ H2 S2 (fun v H3 => ∃ B3, v = .str x ∧ Same B B3 ∧ Sit X.K O B3 M ρ σ H3) (fun v B3 H3 e3 S3 r3 => by cases r3; exact ⟨B3, rfl, e2.trans e3, S3⟩)) pins s2 I2) fun fv s3 z3 => Calls.spliced_nil ?_)
  obtain ⟨v3, H3, I3, rz, B3, rfl, e3, S3⟩ := z3
  obtain ⟨t, rfl⟩ := (show ∃ t, iv = Value.str z t from ry)
  obtain ⟨t2, rfl⟩ := (show ∃ t, fv = Value.str x t from rz)
  refine call_meetsIn PySem.F.slot_dict_get ⟨_, I3.kIn _ _ Dk.at_, rfl⟩ PySem.F.entry_dict_get (PySem.F.args_dict_get_3 _ _ _) (meets_dict_get_default (PySem.strKind X.prog X.w) d (PySem.strKind_is X.prog X.w z t) Dk.low (.str x t2)) ⟨_, PySem.W.mapOf_K (prog := X.prog) I3.kIn Dk.at_ Dk.lit, ?_⟩
  rcases hr with ⟨t3, hr⟩ | ⟨hr, rfl⟩
  · rw [PySem.W.find_K Dk.at_ hr]
    exact ⟨.str y, H3, I3.tok _, ⟨t3, rfl⟩, q _ B3 H3 e3 S3 (.str y)⟩
  · rw [PySem.W.find_K Dk.at_ hr]
    exact ⟨.str y, H3, I3.tok _, ⟨t2, rfl⟩, q _ B3 H3 e3 S3 (.str y)⟩
end
end K32

set_option maxRecDepth 100000
set_option maxHeartbeats 4000000
namespace K32
open PySem L2
def Nd.hd : Nd → Bool
  | .call | .first | .second => true
  | _ => false
/-- held by what is around it -/
def heldAt (l : List Nd) : Nat → Bool
  | 0 => false
  | j + 1 => match l[j]? with
    | some n => n.hd
    | none => false
def marks (m : Nat) (l : List Nd) : List Bool := (List.range m).map (heldAt l)
theorem marks_len (m : Nat) (l : List Nd) : (marks m l).length = m := by unfold marks; rw [List.length_map, List.length_range]
theorem heldAt_succ {l : List Nd} {i : Nat} {n : Nd} (h : l[i]? = some n) (j : Nat) : heldAt (l.take (i + 1)) j = if j = i + 1 then n.hd else heldAt (l.take i) j := by
  have hl := (List.getElem?_eq_some_iff.mp h).1
  cases j with
  | zero => rfl
  | succ j =>
    show (match (l.take (i + 1))[j]? with | some n => n.hd | none => false) = if j + 1 = i + 1 then n.hd else (match (l.take i)[j]? with | some n => n.hd | none => false)
    rw [List.getElem?_take, List.getElem?_take]
    by_cases h1 : j = i
    · subst h1
      rw [if_pos (by omega), h, if_pos rfl]
    · rw [if_neg (show ¬ j + 1 = i + 1 by omega)]
      by_cases h2 : j < i
      · rw [if_pos (by omega), if_pos h2]
      · rw [if_neg (by omega), if_neg h2]
theorem marks_step {m : Nat} {l : List Nd} {i : Nat} {n : Nd} (h : l[i]? = some n) : marks m (l.take (i + 1)) = if n.hd then (marks m (l.take i)).set (i + 1) true else marks m (l.take i) := by
  apply List.ext_getElem?
  intro j
  by_cases hj : j < m
  · have e1 : ∀ l', (marks m l')[j]? = some (heldAt l' j) := fun l' => by unfold marks; rw [List.getElem?_map, List.getElem?_range hj]; rfl
    rw [e1, heldAt_succ h]
    cases hh : n.hd with
    | true =>
      rw [if_pos rfl, List.getElem?_set, marks_len]
      by_cases h1 : i + 1 = j
      · rw [if_pos h1.symm, if_pos h1, if_pos (by omega)]
      · rw [if_neg (fun q => h1 q.symm), if_neg h1, e1]
    | false =>
      rw [if_neg Bool.false_ne_true, e1]
      by_cases h1 : j = i + 1
      · rw [if_pos h1, h1]
        show some false = some (match (l.take i)[i]? with | some n => n.hd | none => false)
        rw [List.getElem?_take, if_neg (by omega)]
      · rw [if_neg h1]
  · rw [List.getElem?_eq_none (by rw [marks_len]; omega), List.getElem?_eq_none (by split <;> (try rw [List.length_set]) <;> rw [marks_len] <;> omega)]
def boolsD (bs : List Bool) : List PyData := bs.map .bool
theorem want_last {l : List Nd} (h : TreeL l) {i : Nat} {n : Nd} (hn : l[i]? = some n) (hb : 0 < n.binds.length) : i + 1 < l.length := by
  have hl := (List.getElem?_eq_some_iff.mp hn).1
  by_cases e : i + 1 < l.length
  · exact e
  · have h1 : l.take (i + 1) = l := List.take_of_length_le (by omega)
    have h2 := want_succ hn
    rw [h1, h.2] at h2
    have h3 := h.1 i hl
    omega
theorem hd_binds {n : Nd} (h : n.hd = true) : 0 < n.binds.length := by cases n <;> first | (cases h; done) | simp [Nd.binds]
theorem hd_word (n : Nd) : (["call", "first", "second"] : List Str).contains n.word = n.hd := by cases n <;> rfl
section
variable {P : Program} {w : World} {K : PySem.W.Frag} {mg : Str → Option Value} {base : Heap}
def R_held : List PyData → PyData → Prop := fun ds d => ∃ l, ds = [.list (encs l)] ∧ TreeL l ∧ l.length ≤ 1000 ∧ d = .list (boolsD (marks l.length l))
theorem d_held_marks (T : Tx w K mg) : Def P w K mg base CX0 "held_marks" 1 ["nodes"] (spR K R_held) := by
  refine def_R (f_held_marks T) (g_held_marks T) sc_held_marks (fun _ _ _ _ _ _ us hl => match us, hl with | [_], _ => rfl) (fun ds d h => by obtain ⟨l, rfl, ht, hz, rfl⟩ := h; rfl) fun cdv A outer s H E hr ds d h O D hD hq => ?_
  obtain ⟨l, rfl, ht, hz, rfl⟩ := h
  refine go_setLcG (own := [("node", 1)]) (ρ1 := fun k => [.d (.list (encs l)), .d ((encs l).getD k .none), .no, .no]) (q := fun _ => true) (ls := fun _ => .d (.bool false)) 2 rfl sc_held_marks.nd rfl rfl rfl (it_list (ed_v 0)) (blkOk_by (N := N_held_marks) (sc := defScope s_held_marks) (own := [("node", 1)]) (by decide +kernel)) (fun _ _ _ _ _ => pg_name (i := 1) sc_held_marks.nd rfl (.inl rfl)) (fun _ _ _ _ _ => pts_nil)
    (by rw [encs_len]; omega) tgt_one tst_yes (fun L p w' k hk _ s' H' C' cl fp => ed_bl) fun p hp => ?_
  rw [kept_all]
  refine go_for (fun i => [(p, .lst ((boolsD (marks l.length (l.take i))).map .d))]) (fun i => [.d (.list (encs l)), .no, .v (.ref p), .no]) (it_enum (b_enumerate T) (ed_v 0)) (pg_tup rfl (pgs_cons (pg_name (i := 3) sc_held_marks.nd rfl (.inl rfl)) (pgs_cons (pg_name (i := 1) sc_held_marks.nd rfl (.inl rfl)) pgs_nil))) ?_ rfl (fun L i hi => ⟨_, tg_two 3 1, ?_⟩) ?_
  · rw [List.take_zero, encs_len]
    have : boolsD (marks l.length []) = (List.range l.length).map fun _ => .bool false := by
      unfold boolsD marks
      rw [List.map_map]
      refine List.map_congr_left fun j _ => ?_
      cases j <;> rfl
    rw [this, List.map_map]
    rfl
  · rw [encs_len] at hi
    obtain ⟨n, hn⟩ := get_lt hi
    rw [encs_getD hn]
    have e := marks_step (m := l.length) hn
    refine go_when (k := n.hd) (et_b (et_inS (ss := ["call", "first", "second"]) (ed_word (ed_v 1)) (ed_tup (ea_cons ed_str (ea_cons ed_str (ea_cons ed_str ea_nil))))) (hd_word n)) (fun hh => ?_) fun hh => ?_
    · have hlt := want_last ht hn (hd_binds hh)
      rw [hh, if_pos rfl] at e
      refine go_setItem 0 (q := i + 1) ed_bl (ed_v 2) rfl (ed_is (ed_add (ed_v 3) ed_int) (by rfl)) (by unfold boolsD; rw [List.length_map, List.length_map, marks_len]; exact hlt) ?_
      refine go_thn (go_turnW ?_)
      rw [e]
      unfold boolsD
      rw [List.map_set, List.map_set]
      rfl
    · rw [hh, if_neg (by simp)] at e
      refine go_turnW ?_
      rw [e]
  · rw [encs_len, List.take_length]
    exact go_freeze 0 2 hp (go_ret (ed_v 2) hq) rfl
/-- a step by its own word may be made here -/
def isRule (l : List Nd) (i : Nat) : Bool := match l[i]? with
  | some .lt => true
  | some n => match wantW n with
    | some ss => match l[i + 1]? with
      | some m => ss.contains m.word
      | none => false
    | none => false
  | none => false
theorem wantW_binds {n : Nd} {ss : List Str} (h : wantW n = some ss) : 0 < n.binds.length := by cases n <;> first | (cases h; done) | simp [Nd.binds]
def R_isrule : List PyData → PyData → Prop := fun ds d => ∃ (l : List Nd) (i : Nat), ds = [.list (encs l), .int i] ∧ TreeL l ∧ i < l.length ∧ d = .bool (isRule l i)
theorem d_is_rule_at (T : Tx w K mg) : Def P w K mg base CX0 "is_rule_at" 1 ["nodes", "position"] (spR K R_isrule) := by
  refine def_R (f_is_rule_at T) (g_is_rule_at T) sc_is_rule_at (fun _ _ _ _ _ _ us hl => match us, hl with | [_, _], _ => rfl) (fun ds d h => by obtain ⟨l, i, rfl, ht, hi, rfl⟩ := h; rfl) fun cdv A outer s H E hr ds d h O D hD hq => ?_
  obtain ⟨l, i, rfl, ht, hi, rfl⟩ := h
  obtain ⟨n, hn⟩ := get_lt hi
  refine go_asg 2 sc_is_rule_at.nd (ed_word (ed_ixL (ed_v 0) (ed_v 1) (atI_nat (encs_get hn)))) ?_
  obtain ⟨es, m, Dk⟩ := T.tt.tab 1
  by_cases hL : n = .lt
  · subst hL
    refine go_take (et_b (et_eqS (ed_v 2) ed_str) rfl) ?_
    exact go_ret (ed_is ed_bl (by unfold isRule; rw [hn])) hq
  · refine go_skip (et_b (et_eqS (ed_v 2) ed_str) (by cases n <;> first | rfl | exact absurd rfl hL)) ?_
    cases hw : wantW n with
    | none =>
      refine go_ret (ed_b (ed_and (k := false) (k' := false) (ed_b (ed_inK Dk (d' := .none) (ed_v 2) (ed_gv (g_WANTED T)) (want_none T hw)) rfl) fun q => by cases q) ?_) hq
      unfold isRule
      rw [hn]
      cases n <;> first | rfl | (cases hw; done) | exact absurd rfl hL
    | some ss =>
      have hlt := want_last ht hn (wantW_binds hw)
      obtain ⟨n2, hn2⟩ := get_lt hlt
      obtain ⟨a, e1, e2⟩ := want_tab T hw
      refine go_ret (ed_b (ed_and (k := true) (k' := ss.contains n2.word) (ed_b (ed_inK Dk (d' := .none) (ed_v 2) (ed_gv (g_WANTED T)) e1) rfl) fun q => ?_) ?_) hq
      · exact ed_inS (ed_word (ed_ixL (ed_v 0) (ed_is (ed_add (ed_v 1) ed_int) (by rfl)) (atI_nat (j := i + 1) (encs_get hn2)))) (ed_ixK (v := .ref a) ⟨es, m, _, Dk.at_, Dk.lit, e1, rfl⟩ (fun B => .tup (e2 B) (da_strs' _)) (ed_gv (g_WANTED T)) (ed_v 2))
      · unfold isRule
        rw [hn, hn2]
        cases n <;> cases hw <;> rfl
def rulesA (l : List Nd) (i : Nat) (n : Nd) : List Str := if isRule l i then [n.word] else []
def openW (n : Nd) (k : Kd) : Str := match opens k with
  | some z => z
  | none => n.word
def longOk (l : List Nd) (i : Nat) (n : Nd) (k : Kd) : Bool := (!decide (openW n k = n.word)) && !heldAt l i
/-- all the steps that may be made here, by name -/
def rulesL (l : List Nd) (i : Nat) (n : Nd) (k : Kd) : List Str :=
  rulesA l i n ++ (if longOk l i n k then ([("long" : Str)] : List Str) else [])
theorem go_join {X : Cx} {O : Og} {M M' : Owns} {ρ ρ' : List Lo} {D : Ends} {c : Expr} {tb rest : List Stmt} {pos : Pos} {k : Bool} (hc : Et X O M ρ c k) (h1 : k = true → ∀ N : Ends, (∀ B σ H, Sit X.K O B M' ρ' σ H → N.nx σ H) → Go X O M ρ N tb) (h2 : k = false → M = M' ∧ ρ = ρ') (h : Go X O M' ρ' D rest) :
    Go X O M ρ D (.If c tb [] pos :: rest) := go_when hc (fun q => h1 q _ h) fun q => (h2 q).1 ▸ (h2 q).2 ▸ h
theorem openW_tab {w : World} {K : PySem.W.Frag} {mg : Str → Option Value} (T : Tx w K mg) (n : Nd) (k : Kd) : (∃ t, PySem.W.nsIn K (He.ga K "OPENED") k.word = some (some (.str (openW n k) t))) ∨ (PySem.W.nsIn K (He.ga K "OPENED") k.word = some none ∧ openW n k = n.word) := by
  obtain ⟨o1, o2⟩ := open_tab T k
  unfold openW
  cases h : opens k with
  | none => exact .inr ⟨o2 h, rfl⟩
  | some z => exact .inl (o1 h)
def R_rules : Owns → List Lo → Post → Prop := fun M ls Po => ∃ (l : List Nd) (ks : List Kd) (i : Nat) (n : Nd) (k : Kd), M = [] ∧ ls = [.d (.list (encs l)), .d (.list (ks.map Kd.enc)), .d (.list (boolsD (marks l.length l))), .d (.int i)] ∧ TreeL l ∧ l[i]? = some n ∧ ks[i]? = some k ∧
  Po = fun M' lo => M' = [] ∧ ∃ ys : List Str, ys.Perm (rulesL l i n k) ∧ lo = .d (.list (ys.map .str))
theorem ed_kword {X : Cx} {O : Og} {M : Owns} {ρ : List Lo} {a : Expr} {j : Nat} {p1 pos : Pos} {k : Kd} (h : Ed X O M ρ a (.d k.enc)) : Ed X O M ρ (.Subscript a (.Constant (.int 0) j p1) pos) (.d (.str k.word)) := by
  have : ∃ r, k.enc = .tuple (.str k.word :: r) := by cases k <;> exact ⟨_, rfl⟩
  obtain ⟨r, e⟩ := this
  rw [e] at h
  exact ed_ixT h ed_int (atI_nat (j := 0) rfl)
theorem d_rules_at (T : Tx w K mg) : Def P w K mg base CX0 "rules_at" 2 ["nodes", "kinds", "held", "position"] (spO K R_rules) := by
  refine def_O (f_rules_at T) (g_rules_at T) sc_rules_at (fun _ _ _ _ _ _ us hl => match us, hl with | [_, _, _, _], _ => rfl) (fun M ls Po h => by obtain ⟨l, ks, i, n, k, rfl, rfl, ht, hn, hk, rfl⟩ := h; rfl) fun cdv A outer s H E hr M ls Po h O D hD hq => ?_
  obtain ⟨l, ks, i, n, k, rfl, rfl, ht, hn, hk, rfl⟩ := h
  have hi := (List.getElem?_eq_some_iff.mp hn).1
  have hke : (ks.map Kd.enc)[i]? = some k.enc := by rw [List.getElem?_map, hk]; rfl
  refine go_par2 4 5 sc_rules_at.nd (ac_d (ed_word (ed_ixL (ed_v 0) (ed_v 3) (atI_nat (encs_get hn)))) (ac_l (el_lst (ls := []) ea_nil) fun p hp => ac_nil)) ?_
  rintro M' ls ⟨_, rfl, p, _, hp, rfl, rfl, rfl⟩
  refine ⟨_, _, rfl, ?_⟩
  obtain ⟨es, m, Dk⟩ := T.tt.tab 2
  have hmk : (boolsD (marks l.length l))[i]? = some (.bool (heldAt l i)) := by
    unfold boolsD marks
    rw [List.getElem?_map, List.getElem?_map, List.getElem?_range hi]
    rfl
  refine go_join (M' := [(p, .lst (((rulesA l i n).map .str).map .d))]) (ρ' := [.d (.list (encs l)), .d (.list (ks.map Kd.enc)), .d (.list (boolsD (marks l.length l))), .d (.int i), .d (.str n.word), .v (.ref p), .no]) (et_v (ed_callR (ds := [.list (encs l), .int i]) (d_is_rule_at T) hr (ea_cons (ed_v 0) (ea_cons (ed_v 3) ea_nil)) ⟨l, i, rfl, ht, hi, rfl⟩)) (fun hh N hN => ?_) (fun hh => ⟨by unfold rulesA; rw [hh]; rfl, rfl⟩) ?_
  · refine go_append 0 5 (ed_v 5) rfl (ed_v 4) (by simp) (go_nil fun B σ H' S => hN B σ H' ?_)
    unfold rulesA
    rw [if_pos hh]
    exact S
  refine go_asg (l := .d (.str (openW n k))) 6 sc_rules_at.nd (ed_getK hr.r64 Dk (ed_gv (g_OPENED T)) (ed_kword (ed_ixL (ed_v 1) (ed_v 3) (atI_nat hke))) (ed_v 4) (openW_tab T n k) ⟨rfl, rfl, rfl, rfl⟩) ?_
  have hz : (rulesA l i n).length ≤ 1 := by unfold rulesA; split <;> simp
  refine go_join (k := longOk l i n k) (M' := [(p, .lst (((rulesL l i n k).map .str).map .d))]) (ρ' := [.d (.list (encs l)), .d (.list (ks.map Kd.enc)), .d (.list (boolsD (marks l.length l))), .d (.int i), .d (.str n.word), .v (.ref p), .d (.str (openW n k))]) (et_b (et_and (et_neS (ed_v 6) (ed_v 4)) fun _ => et_not (et_v (ed_ixL (ed_v 2) (ed_v 3) (atI_nat hmk)))) rfl) (fun hh N hN => ?_) (fun hh => ⟨by unfold rulesL; rw [hh, if_neg Bool.false_ne_true, List.append_nil], rfl⟩) ?_
  · refine go_append 0 5 (ed_v 5) rfl (ed_str (x := "long")) (by rw [List.length_map, List.length_map]; omega) (go_nil fun B σ H' S => hN B σ H' ?_)
    have e : ((rulesL l i n k).map PyData.str).map Lo.d = ((rulesA l i n).map PyData.str).map Lo.d ++ [Lo.d (.str "long")] := by
      unfold rulesL
      rw [hh, if_pos rfl, List.map_append, List.map_append]
      rfl
    rw [e]
    exact S
  refine go_freeze (ds := (rulesL l i n k).map .str) 0 5 hp ?_ rfl
  refine go_retX (Ev.ex (ev_sortedS (b_sorted T) (ed_v 5) ?_)) (hq.imp fun M' lo h => ?_)
  · unfold rulesL
    rw [List.length_append]
    have : (if longOk l i n k then ([("long" : Str)] : List Str) else []).length ≤ 1 := by split <;> simp
    omega
  · exact h
end
end K32

/-! # Rows of nodes that are a tree's: ends, binders around, lifting, putting -/
namespace K32
open PySem
theorem Tr.size_pos (t : Tr) : 1 ≤ t.size := by cases t <;> simp only [Tr.size] <;> omega
theorem endsF_cons2 (p : Nat) (n : Nd) (r : List Nd) : (endsF p (n :: r)).2 = (popN n.binds.length (p + 1) (endsF (p + 1) r).2).1 :: (popN n.binds.length (p + 1) (endsF (p + 1) r).2).2 := rfl
theorem endsF_head (p : Nat) (l : List Nd) : (endsF p l).1.head? = if l = [] then none else (endsF p l).2.head? := by
  cases l with
  | nil => rfl
  | cons n r => rfl
theorem endsF_flat (t : Tr) : ∀ p rest, (endsF p (t.flat ++ rest)).2 = (p + t.size) :: (endsF (p + t.size) rest).2 := by
  induction t with
  | name i => intro p rest; rfl
  | told i => intro p rest; rfl
  | fn A b ih =>
    intro p rest
    show (endsF p (.fn A :: (b.flat ++ rest))).2 = _
    rw [endsF_cons2, ih]
    simp only [Nd.binds, List.length_cons, List.length_nil, popN, Tr.size, Nat.add_assoc]
  | call f a ih1 ih2 =>
    intro p rest
    show (endsF p (.call :: ((f.flat ++ a.flat) ++ rest))).2 = _
    rw [List.append_assoc, endsF_cons2, ih1, ih2]
    simp only [Nd.binds, List.length_cons, List.length_nil, popN, Tr.size, Nat.add_assoc]
  | both f a ih1 ih2 =>
    intro p rest
    show (endsF p (.both :: ((f.flat ++ a.flat) ++ rest))).2 = _
    rw [List.append_assoc, endsF_cons2, ih1, ih2]
    simp only [Nd.binds, List.length_cons, List.length_nil, popN, Tr.size, Nat.add_assoc]
  | first q ih =>
    intro p rest
    show (endsF p (.first :: (q.flat ++ rest))).2 = _
    rw [endsF_cons2, ih]
    simp only [Nd.binds, List.length_cons, List.length_nil, popN, Tr.size, Nat.add_assoc]
  | second q ih =>
    intro p rest
    show (endsF p (.second :: (q.flat ++ rest))).2 = _
    rw [endsF_cons2, ih]
    simp only [Nd.binds, List.length_cons, List.length_nil, popN, Tr.size, Nat.add_assoc]
  | left B q ih =>
    intro p rest
    show (endsF p (.left B :: (q.flat ++ rest))).2 = _
    rw [endsF_cons2, ih]
    simp only [Nd.binds, List.length_cons, List.length_nil, popN, Tr.size, Nat.add_assoc]
  | right A q ih =>
    intro p rest
    show (endsF p (.right A :: (q.flat ++ rest))).2 = _
    rw [endsF_cons2, ih]
    simp only [Nd.binds, List.length_cons, List.length_nil, popN, Tr.size, Nat.add_assoc]
  | which s l r ih1 ih2 ih3 =>
    intro p rest
    show (endsF p (.which :: ((s.flat ++ (l.flat ++ r.flat)) ++ rest))).2 = _
    rw [List.append_assoc, List.append_assoc, endsF_cons2, ih1, ih2, ih3]
    simp only [Nd.binds, List.length_cons, List.length_nil, popN, Tr.size, Nat.add_assoc]
  | next q ih =>
    intro p rest
    show (endsF p (.next :: (q.flat ++ rest))).2 = _
    rw [endsF_cons2, ih]
    simp only [Nd.binds, List.length_cons, List.length_nil, popN, Tr.size, Nat.add_assoc]
  | turns A s l r ih1 ih2 ih3 =>
    intro p rest
    show (endsF p (.turns A :: ((s.flat ++ (l.flat ++ r.flat)) ++ rest))).2 = _
    rw [List.append_assoc, List.append_assoc, endsF_cons2, ih1, ih2, ih3]
    simp only [Nd.binds, List.length_cons, List.length_nil, popN, Tr.size, Nat.add_assoc]
  | lt f a ih1 ih2 =>
    intro p rest
    show (endsF p (.lt :: ((f.flat ++ a.flat) ++ rest))).2 = _
    rw [List.append_assoc, endsF_cons2, ih1, ih2]
    simp only [Nd.binds, List.length_cons, List.length_nil, popN, Tr.size, Nat.add_assoc]
theorem flat_ne (t : Tr) : t.flat ≠ [] := by cases t <;> simp [Tr.flat]
theorem endsF_get : ∀ (i : Nat) (l : List Nd) (p : Nat), (endsF p l).1[i]? = (endsF (p + i) (l.drop i)).1.head?
  | 0, l, p => by rw [List.drop_zero, Nat.add_zero]; exact List.head?_eq_getElem?.symm
  | i + 1, [], p => by simp [endsF]
  | i + 1, n :: r, p => by
    have ih := endsF_get i r (p + 1)
    show (endsF (p + 1) r).1[i]? = _
    rw [ih, List.drop_succ_cons, Nat.add_assoc, Nat.add_comm 1 i]
/-- the end of the tree that begins at p -/
theorem ends_at {l : List Nd} {p : Nat} {t : Tr} {rest : List Nd} (h : l.drop p = t.flat ++ rest) : (ends l)[p]? = some (p + t.size) := by
  unfold ends
  rw [endsF_get, h, endsF_head, if_neg (fun q => flat_ne t (List.append_eq_nil_iff.mp q).1), endsF_flat, Nat.zero_add]
  rfl
theorem endsF_flats : ∀ (ts : List Tr) (p : Nat) (rest : List Nd), ∃ q, (endsF p (Tr.flats ts ++ rest)).2.length = ts.length + (endsF q rest).2.length
  | [], p, rest => ⟨p, by simp [Tr.flats]⟩
  | t :: ts, p, rest => by
    obtain ⟨q, hq⟩ := endsF_flats ts (p + t.size) rest
    refine ⟨q, ?_⟩
    show (endsF p ((t.flat ++ Tr.flats ts) ++ rest)).2.length = _
    rw [List.append_assoc, endsF_flat, List.length_cons, hq, List.length_cons]
    omega
/-- each place of a tree's row begins a tree -/
theorem sub_at (t : Tr) : ∀ p rest, p < t.size → ∃ (s : Tr) (rest' : List Nd), (t.flat ++ rest).drop p = s.flat ++ rest' := by
  have one : ∀ {n : Nd} {xs rest : List Nd} {t : Tr} {m : Nat}, t.flat = n :: xs → (∀ p, p < m → ∃ (s : Tr) (rest' : List Nd), (xs ++ rest).drop p = s.flat ++ rest') → ∀ p, p < 1 + m → ∃ (s : Tr) (rest' : List Nd), (t.flat ++ rest).drop p = s.flat ++ rest' := fun {n xs rest t m} h h2 p hp => by
    cases p with
    | zero => exact ⟨t, rest, rfl⟩
    | succ p => rw [h, List.cons_append, List.drop_succ_cons]; exact h2 p (by omega)
  have two : ∀ {a : Tr} {ys : List Nd} {m : Nat}, (∀ p rest, p < a.size → ∃ (s : Tr) (rest' : List Nd), (a.flat ++ rest).drop p = s.flat ++ rest') → (∀ p, p < m → ∃ (s : Tr) (rest' : List Nd), ys.drop p = s.flat ++ rest') → ∀ p, p < a.size + m → ∃ (s : Tr) (rest' : List Nd), (a.flat ++ ys).drop p = s.flat ++ rest' := fun {a ys m} h h2 p hp => by
    by_cases q : p < a.size
    · exact h p ys q
    · rw [List.drop_append, List.drop_of_length_le (by rw [Tr.flat_len]; omega), List.nil_append, Tr.flat_len]
      exact h2 _ (by omega)
  induction t with
  | name i => intro p rest hp; exact one (xs := []) (t := .name i) (m := 0) rfl (fun p q => absurd q (by omega)) p hp
  | told i => intro p rest hp; exact one (xs := []) (t := .told i) (m := 0) rfl (fun p q => absurd q (by omega)) p hp
  | fn A b ih => intro p rest hp; exact one (t := .fn A b) rfl (fun p q => ih p rest q) p hp
  | first b ih => intro p rest hp; exact one (t := .first b) rfl (fun p q => ih p rest q) p hp
  | second b ih => intro p rest hp; exact one (t := .second b) rfl (fun p q => ih p rest q) p hp
  | left B b ih => intro p rest hp; exact one (t := .left B b) rfl (fun p q => ih p rest q) p hp
  | right A b ih => intro p rest hp; exact one (t := .right A b) rfl (fun p q => ih p rest q) p hp
  | next b ih => intro p rest hp; exact one (t := .next b) rfl (fun p q => ih p rest q) p hp
  | call f a ih1 ih2 => intro p rest hp; exact one (t := .call f a) rfl (fun p q => by rw [List.append_assoc]; exact two ih1 (fun p q => ih2 p rest q) p q) p (by simp only [Tr.size] at hp; omega)
  | both f a ih1 ih2 => intro p rest hp; exact one (t := .both f a) rfl (fun p q => by rw [List.append_assoc]; exact two ih1 (fun p q => ih2 p rest q) p q) p (by simp only [Tr.size] at hp; omega)
  | lt f a ih1 ih2 => intro p rest hp; exact one (t := .lt f a) rfl (fun p q => by rw [List.append_assoc]; exact two ih1 (fun p q => ih2 p rest q) p q) p (by simp only [Tr.size] at hp; omega)
  | which s l r ih1 ih2 ih3 => intro p rest hp; exact one (t := .which s l r) rfl (fun p q => by rw [List.append_assoc, List.append_assoc]; exact two ih1 (fun p q => two ih2 (fun p q => ih3 p rest q) p q) p q) p (by simp only [Tr.size] at hp; omega)
  | turns A s l r ih1 ih2 ih3 => intro p rest hp; exact one (t := .turns A s l r) rfl (fun p q => by rw [List.append_assoc, List.append_assoc]; exact two ih1 (fun p q => two ih2 (fun p q => ih3 p rest q) p q) p q) p (by simp only [Tr.size] at hp; omega)
theorem okE_flat (t : Tr) : OkE t.flat := fun p n hn => by
  have hp := (List.getElem?_eq_some_iff.mp hn).1
  rw [Tr.flat_len] at hp
  obtain ⟨s, rest, hs⟩ := sub_at t p [] hp
  rw [List.append_nil] at hs
  have e1 : t.flat.drop p = n :: t.flat.drop (p + 1) := drop_cons hn
  rw [e1, Tr.flat_eq s, List.cons_append] at hs
  injection hs with h1 h2
  rw [h2]
  obtain ⟨q, hq⟩ := endsF_flats s.parts (p + 1) rest
  rw [hq, Tr.parts_len, ← h1]
  omega
/-! ### binders around -/
def arT : Nat → Tr → List Nat
  | d, .name _ => [d]
  | d, .told _ => [d]
  | d, .fn _ b => d :: arT (d + 1) b
  | d, .call f a => d :: (arT d f ++ arT d a)
  | d, .both f a => d :: (arT d f ++ arT d a)
  | d, .first p => d :: arT d p
  | d, .second p => d :: arT d p
  | d, .left _ p => d :: arT d p
  | d, .right _ p => d :: arT d p
  | d, .which s l r => d :: (arT d s ++ (arT (d + 1) l ++ arT (d + 1) r))
  | d, .next p => d :: arT d p
  | d, .turns _ n u s => d :: (arT d n ++ (arT (d + 1) u ++ arT d s))
  | d, .lt a b => d :: (arT d a ++ arT (d + 1) b)
theorem arT_len (t : Tr) : ∀ d, (arT d t).length = t.size := by
  induction t <;> intro d <;> simp only [arT, Tr.size, List.length_cons, List.length_append, List.length_nil, *] <;> omega
theorem arnd_flat (t : Tr) : ∀ d st rest, arnd (d :: st) (t.flat ++ rest) = arT d t ++ arnd st rest := by
  induction t <;> intro d st rest <;> simp only [Tr.flat, List.cons_append, List.append_assoc, List.nil_append, arnd, Nd.binds, List.map_cons, List.map_nil, Nat.add_zero, arT, *]
theorem arnd_flat0 (t : Tr) : arnd [0] t.flat = arT 0 t := by
  have h := arnd_flat t 0 [] []
  rw [List.append_nil, arnd_nil, List.append_nil] at h
  exact h
theorem okA_flat (t : Tr) : OkA t.flat := fun i hi q => by
  have h : arnd [0] (t.flat.take i ++ t.flat.drop i) = arnd [0] (t.flat.take i) ++ arnd (arndS [0] (t.flat.take i)) (t.flat.drop i) := arnd_app _ _ _
  rw [List.take_append_drop, q, arnd_nil, List.append_nil] at h
  have h1 := arnd_len (t.flat.take i) [0]
  rw [← h, arnd_flat0, arT_len, List.length_take, ← Tr.flat_len] at h1
  omega
theorem liftL_flat (m : Nat) (t : Tr) : liftL m t.flat = (t.lift m 0).flat := by
  have h : ∀ (t : Tr) d, List.zipWith (liftN m) t.flat (arT d t) = (t.lift m d).flat := fun t => by
    induction t with
    | name i =>
      intro d
      show [liftN m (.name i) d] = _
      unfold liftN Tr.lift
      dsimp only
      split <;> rfl
    | told n => intro d; simp only [Tr.flat, arT, Tr.lift, List.zipWith_cons_cons, List.zipWith_nil_left, liftN]
    | fn A b ih => intro d; simp only [Tr.flat, arT, Tr.lift, List.zipWith_cons_cons, List.zipWith_nil_left, liftN]; rw [ih]
    | first b ih => intro d; simp only [Tr.flat, arT, Tr.lift, List.zipWith_cons_cons, List.zipWith_nil_left, liftN]; rw [ih]
    | second b ih => intro d; simp only [Tr.flat, arT, Tr.lift, List.zipWith_cons_cons, List.zipWith_nil_left, liftN]; rw [ih]
    | left B b ih => intro d; simp only [Tr.flat, arT, Tr.lift, List.zipWith_cons_cons, List.zipWith_nil_left, liftN]; rw [ih]
    | right A b ih => intro d; simp only [Tr.flat, arT, Tr.lift, List.zipWith_cons_cons, List.zipWith_nil_left, liftN]; rw [ih]
    | next b ih => intro d; simp only [Tr.flat, arT, Tr.lift, List.zipWith_cons_cons, List.zipWith_nil_left, liftN]; rw [ih]
    | call f a ih1 ih2 => intro d; simp only [Tr.flat, arT, Tr.lift, List.zipWith_cons_cons, liftN]; rw [List.zipWith_append (by rw [Tr.flat_len, arT_len]), ih1, ih2]
    | both f a ih1 ih2 => intro d; simp only [Tr.flat, arT, Tr.lift, List.zipWith_cons_cons, liftN]; rw [List.zipWith_append (by rw [Tr.flat_len, arT_len]), ih1, ih2]
    | lt f a ih1 ih2 => intro d; simp only [Tr.flat, arT, Tr.lift, List.zipWith_cons_cons, liftN]; rw [List.zipWith_append (by rw [Tr.flat_len, arT_len]), ih1, ih2]
    | which s l r ih1 ih2 ih3 => intro d; simp only [Tr.flat, arT, Tr.lift, List.zipWith_cons_cons, liftN]; rw [List.zipWith_append (by rw [Tr.flat_len, arT_len]), List.zipWith_append (by rw [Tr.flat_len, arT_len]), ih1, ih2, ih3]
    | turns A s l r ih1 ih2 ih3 => intro d; simp only [Tr.flat, arT, Tr.lift, List.zipWith_cons_cons, liftN]; rw [List.zipWith_append (by rw [Tr.flat_len, arT_len]), List.zipWith_append (by rw [Tr.flat_len, arT_len]), ih1, ih2, ih3]
  unfold liftL
  rw [arnd_flat0]
  exact h t 0
theorem putL_flat (o t : Tr) : putL o.flat t.flat = (Tr.put o 0 t).flat := by
  have h : ∀ (t : Tr) d, (List.zipWith (putN o.flat) t.flat (arT d t)).flatten = (Tr.put o d t).flat := fun t => by
    induction t with
    | name i =>
      intro d
      show [putN o.flat (.name i) d].flatten = _
      rw [List.flatten_cons, List.flatten_nil, List.append_nil]
      unfold putN Tr.put
      dsimp only
      by_cases h1 : i < d
      · rw [if_pos h1, if_neg (by omega), if_neg (by omega)]; rfl
      · rw [if_neg h1]
        by_cases h2 : i = d
        · rw [if_pos h2, if_pos h2, liftL_flat]
        · rw [if_neg h2, if_neg h2, if_pos (by omega)]; rfl
    | told n => intro d; simp only [Tr.flat, arT, Tr.put, List.zipWith_cons_cons, List.zipWith_nil_left, putN, List.flatten_cons, List.flatten_nil, List.cons_append, List.nil_append]
    | fn A b ih => intro d; simp only [Tr.flat, arT, Tr.put, List.zipWith_cons_cons, List.zipWith_nil_left, putN, List.flatten_cons, List.flatten_nil, List.cons_append, List.nil_append]; rw [ih]
    | first b ih => intro d; simp only [Tr.flat, arT, Tr.put, List.zipWith_cons_cons, List.zipWith_nil_left, putN, List.flatten_cons, List.flatten_nil, List.cons_append, List.nil_append]; rw [ih]
    | second b ih => intro d; simp only [Tr.flat, arT, Tr.put, List.zipWith_cons_cons, List.zipWith_nil_left, putN, List.flatten_cons, List.flatten_nil, List.cons_append, List.nil_append]; rw [ih]
    | left B b ih => intro d; simp only [Tr.flat, arT, Tr.put, List.zipWith_cons_cons, List.zipWith_nil_left, putN, List.flatten_cons, List.flatten_nil, List.cons_append, List.nil_append]; rw [ih]
    | right A b ih => intro d; simp only [Tr.flat, arT, Tr.put, List.zipWith_cons_cons, List.zipWith_nil_left, putN, List.flatten_cons, List.flatten_nil, List.cons_append, List.nil_append]; rw [ih]
    | next b ih => intro d; simp only [Tr.flat, arT, Tr.put, List.zipWith_cons_cons, List.zipWith_nil_left, putN, List.flatten_cons, List.flatten_nil, List.cons_append, List.nil_append]; rw [ih]
    | call f a ih1 ih2 => intro d; simp only [Tr.flat, arT, Tr.put, List.zipWith_cons_cons, List.zipWith_nil_left, putN, List.flatten_cons, List.flatten_nil, List.cons_append, List.nil_append]; rw [List.zipWith_append (by rw [Tr.flat_len, arT_len]), List.flatten_append, ih1, ih2]
    | both f a ih1 ih2 => intro d; simp only [Tr.flat, arT, Tr.put, List.zipWith_cons_cons, List.zipWith_nil_left, putN, List.flatten_cons, List.flatten_nil, List.cons_append, List.nil_append]; rw [List.zipWith_append (by rw [Tr.flat_len, arT_len]), List.flatten_append, ih1, ih2]
    | lt f a ih1 ih2 => intro d; simp only [Tr.flat, arT, Tr.put, List.zipWith_cons_cons, List.zipWith_nil_left, putN, List.flatten_cons, List.flatten_nil, List.cons_append, List.nil_append]; rw [List.zipWith_append (by rw [Tr.flat_len, arT_len]), List.flatten_append, ih1, ih2]
    | which s l r ih1 ih2 ih3 => intro d; simp only [Tr.flat, arT, Tr.put, List.zipWith_cons_cons, List.zipWith_nil_left, putN, List.flatten_cons, List.flatten_nil, List.cons_append, List.nil_append]; rw [List.zipWith_append (by rw [Tr.flat_len, arT_len]), List.flatten_append, List.zipWith_append (by rw [Tr.flat_len, arT_len]), List.flatten_append, ih1, ih2, ih3]
    | turns A s l r ih1 ih2 ih3 => intro d; simp only [Tr.flat, arT, Tr.put, List.zipWith_cons_cons, List.zipWith_nil_left, putN, List.flatten_cons, List.flatten_nil, List.cons_append, List.nil_append]; rw [List.zipWith_append (by rw [Tr.flat_len, arT_len]), List.flatten_append, List.zipWith_append (by rw [Tr.flat_len, arT_len]), List.flatten_append, ih1, ih2, ih3]
  unfold putL
  rw [arnd_flat0]
  exact h t 0
/-! ### just one tree -/
def sg (l : List Nd) : Int := (l.map fun n => (n.binds.length : Int) - 1).sum
theorem sg_app (a b : List Nd) : sg (a ++ b) = sg a + sg b := by unfold sg; rw [List.map_append, List.sum_append]
def PosT (l : List Nd) (c : Int) : Prop := (∀ i, i < l.length → 1 - c ≤ sg (l.take i)) ∧ sg l = -c
theorem PosT.app {a b : List Nd} {c d : Int} (ha : PosT a c) (hb : PosT b d) (hc : 0 ≤ c) (hd : 0 ≤ d) : PosT (a ++ b) (c + d) := by
  refine ⟨fun i hi => ?_, by rw [sg_app, ha.2, hb.2]; omega⟩
  rw [List.take_append, sg_app]
  by_cases q : i < a.length
  · have h := ha.1 i q
    rw [show i - a.length = 0 by omega, List.take_zero]
    show _ ≤ _ + (0 : Int)
    omega
  · rw [List.length_append] at hi
    rw [List.take_of_length_le (show a.length ≤ i by omega), ha.2]
    have h := hb.1 (i - a.length) (by omega)
    omega
theorem PosT.node {n : Nd} {l : List Nd} (h : PosT l n.binds.length) : PosT (n :: l) 1 := by
  refine ⟨fun i hi => ?_, ?_⟩
  · cases i with
    | zero => exact Int.le_refl _
    | succ i =>
      have h1 := h.1 i (by simpa using hi)
      show (1 : Int) - 1 ≤ ((n.binds.length : Int) - 1) + sg (l.take i)
      omega
  · show ((n.binds.length : Int) - 1) + sg l = -1
    rw [h.2]
    omega
theorem posT_nil : PosT [] 0 := ⟨fun i hi => by simp at hi, rfl⟩
theorem posT_flat (t : Tr) : PosT t.flat 1 := by
  induction t with
  | name i => exact PosT.node posT_nil
  | told i => exact PosT.node posT_nil
  | fn A b ih => exact PosT.node (n := .fn A) ih
  | call f a ih1 ih2 => exact PosT.node (n := .call) (ih1.app ih2 (by decide) (by decide))
  | both f a ih1 ih2 => exact PosT.node (n := .both) (ih1.app ih2 (by decide) (by decide))
  | first p ih => exact PosT.node (n := .first) ih
  | second p ih => exact PosT.node (n := .second) ih
  | left B p ih => exact PosT.node (n := .left B) ih
  | right A p ih => exact PosT.node (n := .right A) ih
  | which s l r ih1 ih2 ih3 => exact PosT.node (n := .which) (ih1.app (ih2.app ih3 (by decide) (by decide)) (by decide) (by decide))
  | next p ih => exact PosT.node (n := .next) ih
  | turns A s l r ih1 ih2 ih3 => exact PosT.node (n := .turns A) (ih1.app (ih2.app ih3 (by decide) (by decide)) (by decide) (by decide))
  | lt f a ih1 ih2 => exact PosT.node (n := .lt) (ih1.app ih2 (by decide) (by decide))
theorem treeL_flat (t : Tr) : TreeL t.flat := by
  have h := posT_flat t
  refine ⟨fun i hi => ?_, ?_⟩
  · have := h.1 i hi
    show 0 < 1 + sg (t.flat.take i)
    omega
  · show 1 + sg t.flat = 0
    rw [h.2]
    rfl
end K32

set_option maxRecDepth 100000
set_option maxHeartbeats 4000000
namespace K32
open PySem L2
theorem drop_app {l a b : List Nd} {p q : Nat} (h : l.drop p = a ++ b) (hq : q = p + a.length) : l.drop q = b := by
  subst hq
  rw [← List.drop_drop, h, List.drop_append, List.drop_length, Nat.sub_self, List.drop_zero, List.nil_append]
theorem cut_seg {l b rest : List Nd} {p q : Nat} (h : l.drop p = b ++ rest) (hp : p ≤ l.length) (hq : q = p + b.length) : cutD (encs l) (some (p : Int)) (some (q : Int)) = encs b := by
  subst hq
  have hl := congrArg List.length h
  rw [List.length_drop, List.length_append] at hl
  rw [cutD_nat (by omega) (by rw [encs_len]; omega), Nat.add_sub_cancel_left]
  unfold encs
  rw [← List.map_drop, h, List.map_append, List.take_append_of_le_length (by rw [List.length_map]; exact Nat.le_refl _), List.take_of_length_le (by rw [List.length_map]; exact Nat.le_refl _)]
theorem ends_len (l : List Nd) : (ends l).length = l.length := endsF_len l 0
/-- a tree at a place of a row -/
structure At (l : List Nd) (p : Nat) (t : Tr) (rest : List Nd) : Prop where
  eq : l.drop p = t.flat ++ rest
  most : l.length ≤ 300
theorem At.len {l : List Nd} {p : Nat} {t : Tr} {rest : List Nd} (h : At l p t rest) : p + t.size + rest.length = l.length := by
  have e := congrArg List.length h.eq
  rw [List.length_drop, List.length_append, Tr.flat_len] at e
  have := t.size_pos
  omega
theorem At.get {l : List Nd} {p : Nat} {t : Tr} {rest : List Nd} (h : At l p t rest) : l[p]? = some t.node := by
  have e := h.eq
  rw [Tr.flat_eq] at e
  have e2 : (l.drop p)[0]? = some t.node := by rw [e]; rfl
  rwa [List.getElem?_drop, Nat.add_zero] at e2
theorem At.ends {l : List Nd} {p : Nat} {t : Tr} {rest : List Nd} (h : At l p t rest) : (intsD (K32.ends l))[p]? = some (.int ((p + t.size : Nat) : Int)) := by
  unfold intsD
  rw [List.getElem?_map, ends_at h.eq]
  rfl
theorem At.sub {l : List Nd} {p : Nat} {t : Tr} {rest : List Nd} (h : At l p t rest) {s : Tr} {a r : List Nd} {q : Nat} (e : t.flat = a ++ (s.flat ++ r)) (hq : q = p + a.length) : At l q s (r ++ rest) :=
  ⟨by rw [← List.append_assoc]; exact drop_app (a := a) (by rw [h.eq, e, List.append_assoc]) hq, h.most⟩
section
variable {X : Cx} {O : Og} {M : Owns} {ρ : List Lo} {a b c e : Expr} {pos p1 p2 : Pos} {lo hi : Option Expr}
/-- nodes[p:q], a tree's row -/
theorem el_tree {l rest : List Nd} {t : Tr} {p : Nat} {q : Nat} (h : At l p t rest) (he : Ed X O M ρ e (.d (.list (encs l)))) (hl : Eo X O M ρ lo (some (p : Int))) (hh : Eo X O M ρ hi (some (q : Int))) (hq : q = p + t.size) : El X O M ρ (.Subscript e (.Slice lo hi none p2) pos) ((encs t.flat).map .d) := by
  have z := el_slice (p2 := p2) (pos := pos) he hl hh
  rw [cut_seg h.eq (by have := h.len; omega) (by rw [Tr.flat_len]; exact hq)] at z
  exact z
theorem el_seg {l bs rest : List Nd} {p q : Nat} (h : l.drop p = bs ++ rest) (hp : p ≤ l.length) (he : Ed X O M ρ e (.d (.list (encs l)))) (hl : Eo X O M ρ lo (some (p : Int))) (hh : Eo X O M ρ hi (some (q : Int))) (hq : q = p + bs.length) : El X O M ρ (.Subscript e (.Slice lo hi none p2) pos) ((encs bs).map .d) := by
  have z := el_slice (p2 := p2) (pos := pos) he hl hh
  rw [cut_seg h hp hq] at z
  exact z
theorem eo_nat {q : Nat} {i : Int} (h : Ed X O M ρ e (.d (.int i))) (hq : i = (q : Int)) : Eo X O M ρ (some e) (some (q : Int)) := eo_some (hq ▸ h)
end
/-- what a step of turns makes -/
def madeTurns (A : Kd) (m : Nat) (u s : Tr) : Tr := match m with
  | 0 => s
  | m + 1 => Tr.put (.turns A (.told m) u s) 0 u
section
variable {P : Program} {w : World} {K : PySem.W.Frag} {mg : Str → Option Value} {base : Heap}
def R_byturns : List PyData → PyData → Prop := fun ds d => ∃ (l rest : List Nd) (p : Nat) (A : Kd) (m : Nat) (u s : Tr), ds = [.list (encs l), .list (intsD (ends l)), .int p] ∧ At l p (.turns A (.told m) u s) rest ∧ d = .list (encs (madeTurns A m u s).flat)
theorem d_by_turns (T : Tx w K mg) : Def P w K mg base CX0 "by_turns" 4 ["nodes", "ends", "position"] (spR K R_byturns) := by
  refine def_R (f_by_turns T) (g_by_turns T) sc_by_turns (fun _ _ _ _ _ _ us hl => match us, hl with | [_, _, _], _ => rfl) (fun ds d h => by obtain ⟨l, rest, p, A, m, u, s, rfl, hA, rfl⟩ := h; rfl) fun cdv A outer s H E hr ds d h O D hD hq => ?_
  obtain ⟨l, rest, p, A, m, u, s, rfl, hA, rfl⟩ := h
  have h1 : At l (p + 1) (.told m) ((u.flat ++ s.flat) ++ rest) := hA.sub (a := [.turns A]) rfl rfl
  have h2 : At l (p + 2) u (s.flat ++ rest) := hA.sub (a := [.turns A, .told m]) rfl rfl
  have h3 : At l (p + 2 + u.size) s ([] ++ rest) := hA.sub (a := .turns A :: .told m :: u.flat) (by simp [Tr.flat]) (by simp [Tr.flat_len]; omega)
  have hsz : (Tr.turns A (.told m) u s).size = 2 + u.size + s.size := by simp only [Tr.size]
  refine go_par3 3 4 5 sc_by_turns.nd (ac_d (l := .d (.int m)) (ed_ixT (ds := [.str "told", .int m]) (ed_ixL (d := (Nd.told m).enc) (ed_v 0) (ed_is (ed_add (ed_v 2) ed_int) (by rfl)) (atI_nat (j := p + 1) (encs_get h1.get))) ed_int) (ac_d (l := .d (.int ((p + 2 : Nat) : Int))) (ed_is (ed_add (ed_v 2) ed_int) (by rfl)) (ac_d (l := .d (.int ((p + 2 + u.size : Nat) : Int))) (ed_ixL (ed_v 1) (ed_is (ed_add (ed_v 2) ed_int) (by rfl)) (atI_nat (j := p + 2) h2.ends)) ac_nil))) ?_
  rintro M' ls ⟨_, rfl, _, rfl, _, rfl, rfl, rfl⟩
  refine ⟨_, _, _, rfl, ?_⟩
  cases m with
  | zero =>
    refine go_take (et_b (et_eqI (ed_v 3) ed_int) rfl) ?_
    exact go_ret (El.ed (el_tree h3 (ed_v 0) (eo_nat (ed_v 5) rfl) (eo_nat (ed_ixL (ed_v 1) (ed_v 2) (atI_nat hA.ends)) rfl) (by omega))) hq
  | succ m =>
    refine go_skip (et_b (et_eqI (ed_v 3) ed_int) (decide_eq_false (by omega))) ?_
    have hus : l.drop (p + 2) = (u.flat ++ s.flat) ++ rest := by rw [h2.eq, List.append_assoc]
    have hl := hA.len
    have hm := hA.most
    refine go_asg (l := .d (.list (encs (Tr.turns A (.told m) u s).flat))) 6 sc_by_turns.nd (ed_is (El.ed (el_cat (ds := [(Nd.turns A).enc, (Nd.told m).enc]) (fs := encs (u.flat ++ s.flat)) (ed_lst (ea_cons (ed_ixL (ed_v 0) (ed_v 2) (atI_nat (encs_get hA.get))) (ea_cons (ed_tup (ds := [.str "told", .int m]) (ea_cons ed_str (ea_cons (ed_is (ed_sub (ed_v 3) ed_int) (by rw [show (((m + 1 : Nat) : Int) - 1) = (m : Int) by omega])) ea_nil))) ea_nil)))
      (El.ed (el_seg hus (by omega) (ed_v 0) (eo_nat (ed_v 4) rfl) (eo_nat (ed_ixL (ed_v 1) (ed_v 2) (atI_nat hA.ends)) rfl) (by rw [List.length_append, Tr.flat_len, Tr.flat_len]; omega))) (by rw [encs_len, List.length_append, Tr.flat_len, Tr.flat_len]; simp; omega))) (by rfl)) ?_
    have hs2 : (Tr.turns A (.told m) u s).size = 2 + u.size + s.size := by simp only [Tr.size]
    refine go_ret (ed_callR (ds := [.list (encs u.flat), .list (encs (Tr.turns A (.told m) u s).flat)]) (d_nodes_put T) hr (ea_cons (El.ed (el_tree h2 (ed_v 0) (eo_nat (ed_v 4) rfl) (eo_nat (ed_v 5) rfl) rfl)) (ea_cons (ed_v 6) ea_nil))
      ⟨u.flat, _, rfl, okA_flat _, okA_flat _, by rw [Tr.flat_len]; omega, by rw [Tr.flat_len]; omega, by rw [Tr.flat_len]; omega, by rw [putL_flat]; rfl⟩) hq
end
end K32

set_option maxRecDepth 100000
set_option maxHeartbeats 4000000
namespace K32
open PySem L2
/-- what a step of which makes -/
def madeWhich : Tr → Tr → Tr → Option Tr
  | .left _ a, l, _ => some (Tr.put a 0 l)
  | .right _ a, _, r => some (Tr.put a 0 r)
  | _, _, _ => none
def madeLong (t : Tr) : Kd → Tr
  | .fn A _ => .fn A (.call (Tr.lift 1 0 t) (.name 0))
  | _ => .both (.first t) (.second t)
/-- what a step by a node's own word makes -/
def madeW : Tr → Option Tr
  | .call (.fn _ b) a => some (Tr.put a 0 b)
  | .first (.both a _) => some a
  | .second (.both _ b) => some b
  | .which s l r => madeWhich s l r
  | .next (.told m) => some (.told (min (m + 1) 1000000))
  | .turns A (.told m) u s => some (madeTurns A m u s)
  | .lt a b => some (Tr.put a 0 b)
  | _ => none
section
variable {P : Program} {w : World} {K : PySem.W.Frag} {mg : Str → Option Value} {base : Heap}
def R_bywhich : List PyData → PyData → Prop := fun ds d => ∃ (l rest : List Nd) (p : Nat) (s u v t : Tr), ds = [.list (encs l), .list (intsD (ends l)), .int p] ∧ At l p (.which s u v) rest ∧ madeWhich s u v = some t ∧ d = .list (encs t.flat)
theorem d_by_which (T : Tx w K mg) : Def P w K mg base CX0 "by_which" 4 ["nodes", "ends", "position"] (spR K R_bywhich) := by
  refine def_R (f_by_which T) (g_by_which T) sc_by_which (fun _ _ _ _ _ _ us hl => match us, hl with | [_, _, _], _ => rfl) (fun ds d h => by obtain ⟨l, rest, p, s, u, v, t, rfl, hA, hm, rfl⟩ := h; rfl) fun cdv A outer s H E hr ds d h O D hD hq => ?_
  obtain ⟨l, rest, p, s, u, v, t, rfl, hA, hm, rfl⟩ := h
  have hl := hA.len
  have hmo := hA.most
  have hsz : (Tr.which s u v).size = 1 + s.size + u.size + v.size := by simp only [Tr.size]
  have h1 : At l (p + 1) s ((u.flat ++ v.flat) ++ rest) := hA.sub (a := [.which]) rfl rfl
  have h2 : At l (p + 1 + s.size) u (v.flat ++ rest) := hA.sub (a := .which :: s.flat) (by simp [Tr.flat]) (by simp [Tr.flat_len]; omega)
  have h3 : At l (p + 1 + s.size + u.size) v ([] ++ rest) := hA.sub (a := .which :: (s.flat ++ u.flat)) (by simp [Tr.flat]) (by simp [Tr.flat_len]; omega)
  refine go_asg (l := .d (.int ((p + 1 + s.size : Nat) : Int))) 3 sc_by_which.nd (ed_ixL (ed_v 1) (ed_is (ed_add (ed_v 2) ed_int) (by rfl)) (atI_nat (j := p + 1) h1.ends)) ?_
  cases s with
  | left B a =>
    cases hm
    have hs : (Tr.left B a).size = 1 + a.size := by simp only [Tr.size]
    have h4 : At l (p + 2) a ([] ++ (u.flat ++ v.flat ++ rest)) := h1.sub (a := [.left B]) (by simp [Tr.flat]) rfl
    refine go_asg (l := .d (.list (encs a.flat))) 4 sc_by_which.nd (El.ed (el_tree h4 (ed_v 0) (eo_nat (ed_add (ed_v 2) ed_int) (by rfl)) (eo_nat (ed_v 3) rfl) (by omega))) ?_
    refine go_take (et_b (et_eqS (ed_word (ed_ixL (ed_v 0) (ed_is (ed_add (ed_v 2) ed_int) (by rfl)) (atI_nat (j := p + 1) (encs_get h1.get)))) ed_str) rfl) ?_
    exact go_ret (ed_callR (ds := [.list (encs u.flat), .list (encs a.flat)]) (d_nodes_put T) hr (ea_cons (El.ed (el_tree h2 (ed_v 0) (eo_nat (ed_v 3) rfl) (eo_nat (ed_ixL (ed_v 1) (ed_v 3) (atI_nat h2.ends)) rfl) (by omega))) (ea_cons (ed_v 4) ea_nil))
      ⟨u.flat, a.flat, rfl, okA_flat _, okA_flat _, by rw [Tr.flat_len]; omega, by rw [Tr.flat_len]; omega, by rw [Tr.flat_len]; exact a.size_pos, by rw [putL_flat]⟩) hq
  | right B a =>
    cases hm
    have hs : (Tr.right B a).size = 1 + a.size := by simp only [Tr.size]
    have h4 : At l (p + 2) a ([] ++ (u.flat ++ v.flat ++ rest)) := h1.sub (a := [.right B]) (by simp [Tr.flat]) rfl
    refine go_asg (l := .d (.list (encs a.flat))) 4 sc_by_which.nd (El.ed (el_tree h4 (ed_v 0) (eo_nat (ed_add (ed_v 2) ed_int) (by rfl)) (eo_nat (ed_v 3) rfl) (by omega))) ?_
    refine go_skip (et_b (et_eqS (ed_word (ed_ixL (ed_v 0) (ed_is (ed_add (ed_v 2) ed_int) (by rfl)) (atI_nat (j := p + 1) (encs_get h1.get)))) ed_str) rfl) ?_
    exact go_ret (ed_callR (ds := [.list (encs v.flat), .list (encs a.flat)]) (d_nodes_put T) hr (ea_cons (El.ed (el_tree h3 (ed_v 0) (eo_nat (ed_ixL (ed_v 1) (ed_v 3) (atI_nat h2.ends)) rfl) (eo_nat (ed_ixL (ed_v 1) (ed_v 2) (atI_nat hA.ends)) rfl) (by omega))) (ea_cons (ed_v 4) ea_nil))
      ⟨v.flat, a.flat, rfl, okA_flat _, okA_flat _, by rw [Tr.flat_len]; omega, by rw [Tr.flat_len]; omega, by rw [Tr.flat_len]; exact a.size_pos, by rw [putL_flat]⟩) hq
  | _ => cases hm
def R_bylong : List PyData → PyData → Prop := fun ds d => ∃ (l rest : List Nd) (p : Nat) (t : Tr) (k : Kd), ds = [.list (encs l), .list (intsD (ends l)), .int p, k.enc] ∧ At l p t rest ∧ (∃ z, opens k = some z) ∧ d = .list (encs (madeLong t k).flat)
theorem d_by_long (T : Tx w K mg) : Def P w K mg base CX0 "by_long" 3 ["nodes", "ends", "position", "kind"] (spR K R_bylong) := by
  refine def_R (f_by_long T) (g_by_long T) sc_by_long (fun _ _ _ _ _ _ us hl => match us, hl with | [_, _, _, _], _ => rfl) (fun ds d h => by obtain ⟨l, rest, p, t, k, rfl, hA, ⟨z, hz⟩, rfl⟩ := h; rfl) fun cdv A outer s H E hr ds d h O D hD hq => ?_
  obtain ⟨l, rest, p, t, k, rfl, hA, ⟨z, hz⟩, rfl⟩ := h
  have hl := hA.len
  have hmo := hA.most
  refine go_asg (l := .d (.list (encs t.flat))) 4 sc_by_long.nd (El.ed (el_tree hA (ed_v 0) (eo_nat (ed_v 2) rfl) (eo_nat (ed_ixL (ed_v 1) (ed_v 2) (atI_nat hA.ends)) rfl) rfl)) ?_
  have hb : (encs t.flat).length ≤ 300 := by rw [encs_len, Tr.flat_len]; omega
  cases k with
  | fn A B =>
    refine go_take (et_b (et_eqS (ed_kword (k := .fn A B) (ed_v 3)) (ed_gs (c_FUN T))) rfl) ?_
    have hb2 : (encs (Tr.lift 1 0 t).flat).length ≤ 300 := by
      have e : (liftL 1 t.flat).length ≤ t.flat.length := by unfold liftL; rw [List.length_zipWith]; omega
      rw [encs_len, ← liftL_flat]
      rw [encs_len] at hb
      omega
    refine go_ret (ed_is (El.ed (el_cat (El.ed (el_cat (ds := [(Nd.fn A).enc, Nd.call.enc]) (fs := encs (Tr.lift 1 0 t).flat) (ed_lst (ea_cons (ed_tup (ds := [.str "fun", A.enc]) (ea_cons ed_str (ea_cons (ed_ixT (ds := [.str "fun", A.enc, B.enc]) (ed_v 3) ed_int) ea_nil))) (ea_cons (ed_tup (ds := [.str "call"]) (ea_cons ed_str ea_nil)) ea_nil)))
      (ed_callR (ds := [.list (encs t.flat), .int (1 : Nat)]) ((d_lifted_nodes T).up (by decide)) hr (ea_cons (ed_v 4) (ea_cons ed_int ea_nil)) ⟨t.flat, 1, rfl, okA_flat _, by rw [Tr.flat_len]; omega, by rw [liftL_flat]⟩) (by simp; omega)))
      (ed_lst (ds := [(Nd.name 0).enc]) (ea_cons (ed_tup (ds := [.str "name", .int 0]) (ea_cons ed_str (ea_cons ed_int ea_nil))) ea_nil)) (by simp; omega))) ?_) hq
    simp [madeLong, Tr.flat, encs]
  | pr A B =>
    refine go_skip (et_b (et_eqS (ed_kword (k := .pr A B) (ed_v 3)) (ed_gs (c_FUN T))) rfl) ?_
    refine go_ret (ed_is (El.ed (el_cat (El.ed (el_cat (El.ed (el_cat (ds := [Nd.both.enc, Nd.first.enc]) (fs := encs t.flat) (ed_lst (ea_cons (ed_tup (ds := [.str "both"]) (ea_cons ed_str ea_nil)) (ea_cons (ed_tup (ds := [.str "first"]) (ea_cons ed_str ea_nil)) ea_nil))) (ed_v 4) (by simp; omega)))
      (ed_lst (ds := [Nd.second.enc]) (ea_cons (ed_tup (ds := [.str "second"]) (ea_cons ed_str ea_nil)) ea_nil)) (by simp; omega))) (ed_v 4) (by simp; omega))) ?_) hq
    simp [madeLong, Tr.flat, encs]
  | _ => cases hz
end
end K32

set_option maxRecDepth 100000
set_option maxHeartbeats 4000000
namespace K32
open PySem L2
section
variable {P : Program} {w : World} {K : PySem.W.Frag} {mg : Str → Option Value} {base : Heap}
def R_byword : List PyData → PyData → Prop := fun ds d => ∃ (l rest : List Nd) (p : Nat) (t t' : Tr), ds = [.list (encs l), .list (intsD (ends l)), .int p] ∧ At l p t rest ∧ madeW t = some t' ∧ d = .list (encs t'.flat)
theorem d_by_word (T : Tx w K mg) : Def P w K mg base CX0 "by_word" 5 ["nodes", "ends", "position"] (spR K R_byword) := by
  refine def_R (f_by_word T) (g_by_word T) sc_by_word (fun _ _ _ _ _ _ us hl => match us, hl with | [_, _, _], _ => rfl) (fun ds d h => by obtain ⟨l, rest, p, t, t', rfl, hA, hm, rfl⟩ := h; rfl) fun cdv A outer s H E hr ds d h O D hD hq => ?_
  obtain ⟨l, rest, p, t, t', rfl, hA, hm, rfl⟩ := h
  have hl := hA.len
  have hmo := hA.most
  cases t with
  | call f a =>
    cases f with
    | fn A b =>
      cases hm
      have hsz : (Tr.call (.fn A b) a).size = 2 + b.size + a.size := by simp only [Tr.size]; omega
      have hs1 : (Tr.fn A b).size = 1 + b.size := by simp only [Tr.size]
      have h1 : At l (p + 1) (.fn A b) (a.flat ++ rest) := hA.sub (a := [.call]) rfl rfl
      have h2 : At l (p + 2) b ([] ++ (a.flat ++ rest)) := h1.sub (a := [.fn A]) (by simp [Tr.flat]) rfl
      have h3 : At l (p + 1 + (Tr.fn A b).size) a ([] ++ rest) := hA.sub (a := .call :: .fn A :: b.flat) (by simp [Tr.flat]) (by simp [Tr.flat_len]; omega)
      refine go_par2 3 4 sc_by_word.nd (ac_d (ed_word (ed_ixL (ed_v 0) (ed_v 2) (atI_nat (encs_get hA.get)))) (ac_d (ed_ixL (ed_v 1) (ed_is (ed_add (ed_v 2) ed_int) (by rfl)) (atI_nat (j := p + 1) h1.ends)) ac_nil)) ?_
      rintro M' ls ⟨_, rfl, _, rfl, rfl, rfl⟩
      refine ⟨_, _, rfl, ?_⟩
      refine go_take (et_b (et_eqS (ed_v 3) ed_str) rfl) ?_
      exact go_ret (ed_callR (ds := [.list (encs b.flat), .list (encs a.flat)]) ((d_nodes_put T).up (by decide)) hr (ea_cons (El.ed (el_tree h2 (ed_v 0) (eo_nat (ed_add (ed_v 2) ed_int) (by rfl)) (eo_nat (ed_v 4) rfl) (by omega))) (ea_cons (El.ed (el_tree h3 (ed_v 0) (eo_nat (ed_v 4) rfl) (eo_nat (ed_ixL (ed_v 1) (ed_v 2) (atI_nat hA.ends)) rfl) (by omega))) ea_nil))
        ⟨b.flat, a.flat, rfl, okA_flat _, okA_flat _, by rw [Tr.flat_len]; omega, by rw [Tr.flat_len]; omega, by rw [Tr.flat_len]; exact a.size_pos, by rw [putL_flat]⟩) hq
    | _ => cases hm
  | first f =>
    cases f with
    | both a b =>
      cases hm
      have h1 : At l (p + 1) (.both t' b) ([] ++ rest) := hA.sub (a := [.first]) (by simp [Tr.flat]) rfl
      have h2 : At l (p + 2) t' (b.flat ++ ([] ++ rest)) := h1.sub (a := [.both]) rfl rfl
      refine go_par2 3 4 sc_by_word.nd (ac_d (ed_word (ed_ixL (ed_v 0) (ed_v 2) (atI_nat (encs_get hA.get)))) (ac_d (ed_ixL (ed_v 1) (ed_is (ed_add (ed_v 2) ed_int) (by rfl)) (atI_nat (j := p + 1) h1.ends)) ac_nil)) ?_
      rintro M' ls ⟨_, rfl, _, rfl, rfl, rfl⟩
      refine ⟨_, _, rfl, ?_⟩
      refine go_skip (et_b (et_eqS (ed_v 3) ed_str) rfl) ?_
      refine go_take (et_b (et_eqS (ed_v 3) ed_str) rfl) ?_
      exact go_ret (El.ed (el_tree h2 (ed_v 0) (eo_nat (ed_add (ed_v 2) ed_int) (by rfl)) (eo_nat (ed_ixL (ed_v 1) (ed_is (ed_add (ed_v 2) ed_int) (by rfl)) (atI_nat (j := p + 2) h2.ends)) rfl) rfl)) hq
    | _ => cases hm
  | second f =>
    cases f with
    | both a b =>
      cases hm
      have hsz : (Tr.second (.both a t')).size = 2 + a.size + t'.size := by simp only [Tr.size]; omega
      have h1 : At l (p + 1) (.both a t') ([] ++ rest) := hA.sub (a := [.second]) (by simp [Tr.flat]) rfl
      have h2 : At l (p + 2) a (t'.flat ++ ([] ++ rest)) := h1.sub (a := [.both]) rfl rfl
      have h3 : At l (p + 2 + a.size) t' ([] ++ rest) := hA.sub (a := .second :: .both :: a.flat) (by simp [Tr.flat]) (by simp [Tr.flat_len]; omega)
      refine go_par2 3 4 sc_by_word.nd (ac_d (ed_word (ed_ixL (ed_v 0) (ed_v 2) (atI_nat (encs_get hA.get)))) (ac_d (ed_ixL (ed_v 1) (ed_is (ed_add (ed_v 2) ed_int) (by rfl)) (atI_nat (j := p + 1) h1.ends)) ac_nil)) ?_
      rintro M' ls ⟨_, rfl, _, rfl, rfl, rfl⟩
      refine ⟨_, _, rfl, ?_⟩
      refine go_skip (et_b (et_eqS (ed_v 3) ed_str) rfl) ?_
      refine go_skip (et_b (et_eqS (ed_v 3) ed_str) rfl) ?_
      refine go_take (et_b (et_eqS (ed_v 3) ed_str) rfl) ?_
      exact go_ret (El.ed (el_tree h3 (ed_v 0) (eo_nat (ed_ixL (ed_v 1) (ed_is (ed_add (ed_v 2) ed_int) (by rfl)) (atI_nat (j := p + 2) h2.ends)) rfl) (eo_nat (ed_ixL (ed_v 1) (ed_v 2) (atI_nat hA.ends)) rfl) (by omega))) hq
    | _ => cases hm
  | lt a b =>
    cases hm
    have hsz : (Tr.lt a b).size = 1 + a.size + b.size := by simp only [Tr.size]
    have h1 : At l (p + 1) a (b.flat ++ rest) := hA.sub (a := [.lt]) rfl rfl
    have h3 : At l (p + 1 + a.size) b ([] ++ rest) := hA.sub (a := .lt :: a.flat) (by simp [Tr.flat]) (by simp [Tr.flat_len]; omega)
    refine go_par2 3 4 sc_by_word.nd (ac_d (ed_word (ed_ixL (ed_v 0) (ed_v 2) (atI_nat (encs_get hA.get)))) (ac_d (ed_ixL (ed_v 1) (ed_is (ed_add (ed_v 2) ed_int) (by rfl)) (atI_nat (j := p + 1) h1.ends)) ac_nil)) ?_
    rintro M' ls ⟨_, rfl, _, rfl, rfl, rfl⟩
    refine ⟨_, _, rfl, ?_⟩
    refine go_skip (et_b (et_eqS (ed_v 3) ed_str) rfl) ?_
    refine go_skip (et_b (et_eqS (ed_v 3) ed_str) rfl) ?_
    refine go_skip (et_b (et_eqS (ed_v 3) ed_str) rfl) ?_
    refine go_take (et_b (et_eqS (ed_v 3) ed_str) rfl) ?_
    exact go_ret (ed_callR (ds := [.list (encs b.flat), .list (encs a.flat)]) ((d_nodes_put T).up (by decide)) hr (ea_cons (El.ed (el_tree h3 (ed_v 0) (eo_nat (ed_v 4) rfl) (eo_nat (ed_ixL (ed_v 1) (ed_v 2) (atI_nat hA.ends)) rfl) (by omega))) (ea_cons (El.ed (el_tree h1 (ed_v 0) (eo_nat (ed_add (ed_v 2) ed_int) (by rfl)) (eo_nat (ed_v 4) rfl) rfl)) ea_nil))
      ⟨b.flat, a.flat, rfl, okA_flat _, okA_flat _, by rw [Tr.flat_len]; omega, by rw [Tr.flat_len]; omega, by rw [Tr.flat_len]; exact a.size_pos, by rw [putL_flat]⟩) hq
  | next f =>
    cases f with
    | told m =>
      cases hm
      have h1 : At l (p + 1) (.told m) ([] ++ rest) := hA.sub (a := [.next]) (by simp [Tr.flat]) rfl
      refine go_par2 3 4 sc_by_word.nd (ac_d (ed_word (ed_ixL (ed_v 0) (ed_v 2) (atI_nat (encs_get hA.get)))) (ac_d (ed_ixL (ed_v 1) (ed_is (ed_add (ed_v 2) ed_int) (by rfl)) (atI_nat (j := p + 1) h1.ends)) ac_nil)) ?_
      rintro M' ls ⟨_, rfl, _, rfl, rfl, rfl⟩
      refine ⟨_, _, rfl, ?_⟩
      refine go_skip (et_b (et_eqS (ed_v 3) ed_str) rfl) ?_
      refine go_skip (et_b (et_eqS (ed_v 3) ed_str) rfl) ?_
      refine go_skip (et_b (et_eqS (ed_v 3) ed_str) rfl) ?_
      refine go_skip (et_b (et_eqS (ed_v 3) ed_str) rfl) ?_
      refine go_take (et_b (et_eqS (ed_v 3) ed_str) rfl) ?_
      refine go_ret (ed_lst (ds := [(Nd.told (min (m + 1) 1000000)).enc]) (ea_cons (ed_tup (ds := [.str "told", .int ((min (m + 1) 1000000 : Nat) : Int)]) (ea_cons ed_str (ea_cons (ed_is (ed_min2 rfl (b_min T) (ed_add (ed_ixT (ds := [.str "told", .int m]) (ed_ixL (d := (Nd.told m).enc) (ed_v 0) (ed_is (ed_add (ed_v 2) ed_int) (by rfl)) (atI_nat (j := p + 1) (encs_get h1.get))) ed_int) ed_int) (ed_gi (c_MOST_TOLD T))) ?_) ea_nil))) ea_nil)) hq
      congr 2
      split <;> omega
    | _ => cases hm
  | which s u v =>
    have h1 : At l (p + 1) s ((u.flat ++ v.flat) ++ rest) := hA.sub (a := [.which]) rfl rfl
    refine go_par2 3 4 sc_by_word.nd (ac_d (ed_word (ed_ixL (ed_v 0) (ed_v 2) (atI_nat (encs_get hA.get)))) (ac_d (ed_ixL (ed_v 1) (ed_is (ed_add (ed_v 2) ed_int) (by rfl)) (atI_nat (j := p + 1) h1.ends)) ac_nil)) ?_
    rintro M' ls ⟨_, rfl, _, rfl, rfl, rfl⟩
    refine ⟨_, _, rfl, ?_⟩
    refine go_skip (et_b (et_eqS (ed_v 3) ed_str) rfl) ?_
    refine go_skip (et_b (et_eqS (ed_v 3) ed_str) rfl) ?_
    refine go_skip (et_b (et_eqS (ed_v 3) ed_str) rfl) ?_
    refine go_skip (et_b (et_eqS (ed_v 3) ed_str) rfl) ?_
    refine go_skip (et_b (et_eqS (ed_v 3) ed_str) rfl) ?_
    exact go_ret (ed_ifT (et_eqS (ed_v 3) ed_str) rfl (ed_callR (ds := [.list (encs l), .list (intsD (ends l)), .int p]) (d_by_which T) hr (ea_cons (ed_v 0) (ea_cons (ed_v 1) (ea_cons (ed_v 2) ea_nil))) ⟨l, rest, p, s, u, v, t', rfl, hA, hm, rfl⟩)) hq
  | turns A f u s =>
    cases f with
    | told m =>
      cases hm
      have h1 : At l (p + 1) (.told m) ((u.flat ++ s.flat) ++ rest) := hA.sub (a := [.turns A]) rfl rfl
      refine go_par2 3 4 sc_by_word.nd (ac_d (ed_word (ed_ixL (ed_v 0) (ed_v 2) (atI_nat (encs_get hA.get)))) (ac_d (ed_ixL (ed_v 1) (ed_is (ed_add (ed_v 2) ed_int) (by rfl)) (atI_nat (j := p + 1) h1.ends)) ac_nil)) ?_
      rintro M' ls ⟨_, rfl, _, rfl, rfl, rfl⟩
      refine ⟨_, _, rfl, ?_⟩
      refine go_skip (et_b (et_eqS (ed_v 3) ed_str) rfl) ?_
      refine go_skip (et_b (et_eqS (ed_v 3) ed_str) rfl) ?_
      refine go_skip (et_b (et_eqS (ed_v 3) ed_str) rfl) ?_
      refine go_skip (et_b (et_eqS (ed_v 3) ed_str) rfl) ?_
      refine go_skip (et_b (et_eqS (ed_v 3) ed_str) rfl) ?_
      exact go_ret (ed_ifF (et_eqS (ed_v 3) ed_str) rfl (ed_callR (ds := [.list (encs l), .list (intsD (ends l)), .int p]) (d_by_turns T) hr (ea_cons (ed_v 0) (ea_cons (ed_v 1) (ea_cons (ed_v 2) ea_nil))) ⟨l, rest, p, A, m, u, s, rfl, hA, rfl⟩)) hq
    | _ => cases hm
  | _ => cases hm
end
end K32

set_option maxRecDepth 100000
set_option maxHeartbeats 4000000
namespace K32
open PySem L2
section
variable {X : Cx} {O : Og} {M : Owns} {ρ : List Lo} {e : Expr} {pos : Pos} {D : Ends} {rest : List Stmt} {ds : List PyData}
def RetL (K : PySem.W.Frag) (O : Og) (D : Ends) (ds : List PyData) : Prop := ∀ B H' a M ρ σ, Sit K O B ((a, .lst (ds.map .d)) :: M) ρ σ H' → O.H a = none → D.rt (.ref a) H'
theorem go_retL {p : Addr} (he : Ed X O ((p, .lst (ds.map .d)) :: M) ρ e (.v (.ref p))) (hp : O.H p = none) (hq : RetL X.K O D ds) : Go X O ((p, .lst (ds.map .d)) :: M) ρ D (.Return (some e) pos :: rest) :=
  go_cons fun B σ H S => wS_of (ps_ret pe_w) (he B σ H S _ fun v B1 H1 e1 S1 r1 => by
    have ev : v = .ref p := r1
    subst ev
    exact hq B1 H1 p M ρ σ S1 hp)
theorem go_retEl (he : El X O M ρ e (ds.map .d)) (hq : RetL X.K O D ds) : Go X O M ρ D (.Return (some e) pos :: rest) :=
  go_cons fun B σ H S => wS_of (ps_ret pe_w) (he B σ H S _ fun p B1 H1 hO e1 S1 => hq B1 H1 p M ρ σ S1 hO)
end
/-- the step rule at the place p of t0 makes t' of t -/
structure Stp (t0 : Tr) (p : Nat) (t : Tr) (rest : List Nd) (rule : Str) (t' : Tr) (ks : List Kd) : Prop where
  at_ : At t0.flat p t rest
  kinds : KindsR t0.flat ks
  how : (rule ≠ "long" ∧ madeW t = some t') ∨ (rule = "long" ∧ ∃ k, ks[p]? = some k ∧ (∃ z, opens k = some z) ∧ t' = madeLong t k)
  most : (t0.flat.take p ++ t'.flat ++ rest).length ≤ 300
section
variable {P : Program} {w : World} {K : PySem.W.Frag} {mg : Str → Option Value} {base : Heap}
def R_after : List PyData → List PyData → Prop := fun ds es => ∃ (t0 : Tr) (p : Nat) (t : Tr) (rest : List Nd) (rule : Str) (t' : Tr) (ks : List Kd), ds = [.list (encs t0.flat), .int p, .str rule] ∧ Stp t0 p t rest rule t' ks ∧ es = encs (t0.flat.take p ++ t'.flat ++ rest)
theorem d_after_step (T : Tx w K mg) : Def P w K mg base CX0 "after_step" 9 ["nodes", "position", "rule"] (spL K R_after) := by
  refine def_L (f_after_step T) (g_after_step T) sc_after_step (fun _ _ _ _ _ _ us hl => match us, hl with | [_, _, _], _ => rfl) (fun ds es h => by obtain ⟨t0, p, t, rest, rule, t', ks, rfl, hS, rfl⟩ := h; rfl) fun cdv A outer s H E hr ds es h O D hD hq => ?_
  obtain ⟨t0, p, t, rest, rule, t', ks, rfl, hS, rfl⟩ := h
  have hA := hS.at_
  have hl := hA.len
  have hmo := hA.most
  have hms := hS.most
  rw [List.length_append, List.length_append, List.length_take, Tr.flat_len t'] at hms
  refine go_asg (l := .d (.list (intsD (ends t0.flat)))) 3 sc_after_step.nd (ed_callR (ds := [.list (encs t0.flat)]) ((d_ends_of T).up (by decide)) hr (ea_cons (ed_v 0) ea_nil) ⟨t0.flat, rfl, okE_flat t0, by omega, rfl⟩) ?_
  have hz1 : (encs (t0.flat.take p)).length ≤ p := by rw [encs_len, List.length_take]; omega
  have hz2 : (encs t'.flat).length = t'.size := by rw [encs_len, Tr.flat_len]
  have hz3 : (encs rest).length = rest.length := encs_len _
  rcases hS.how with ⟨hrule, hmade⟩ | ⟨rfl, k, hk, hop, rfl⟩
  · refine go_if (k := false) (et_b (et_eqS (ed_v 2) ed_str) (decide_eq_false hrule)) (fun z => by cases z) fun _ => ?_
    refine go_asg (l := .d (.list (encs t'.flat))) 4 sc_after_step.nd (ed_callR (ds := [.list (encs t0.flat), .list (intsD (ends t0.flat)), .int p]) ((d_by_word T).up (by decide)) hr (ea_cons (ed_v 0) (ea_cons (ed_v 3) (ea_cons (ed_v 1) ea_nil))) ⟨t0.flat, rest, p, t, t', rfl, hA, hmade, rfl⟩) (go_thn ?_)
    refine go_asgL (ls := (encs (t0.flat.take p ++ t'.flat ++ rest)).map .d) 5 sc_after_step.nd (El.is (el_cat (ds := encs (t0.flat.take p) ++ encs t'.flat) (fs := encs rest) (El.ed (el_cat (ds := encs (t0.flat.take p)) (fs := encs t'.flat) (ed_is (El.ed (el_slice (ed_v 0) eo_none (eo_some (ed_v 1)))) ?_) (ed_v 4) (by omega)))
      (ed_is (El.ed (el_slice (ed_v 0) (eo_some (ed_ixL (ed_v 3) (ed_v 1) (atI_nat hA.ends))) eo_none)) ?_) (by rw [List.length_append]; omega)) ?_) fun a ha => ?_
    · rw [cutD_to (by rw [encs_len]; omega)]
      unfold encs
      rw [List.map_take]
    · rw [cutD_from (by rw [encs_len]; omega)]
      unfold encs
      rw [← List.map_drop, drop_app hA.eq (by rw [Tr.flat_len])]
    · rw [encs_app, encs_app]
    refine go_drop (ed_callR (ds := [.str "nodes", .int 300, .int ((encs (t0.flat.take p ++ t'.flat ++ rest)).length : Nat)]) ((d_want_at_most T).up (by decide)) hr (ea_cons ed_str (ea_cons (ed_gi (c_MOST_NODES T)) (ea_cons (ed_is (ed_lenO (b_len T) (ed_v 5) (.head _)) (by rw [List.length_map])) ea_nil))) ⟨_, _, _, rfl, by rw [encs_len]; have := hS.most; omega, rfl⟩) ?_
    exact go_retL (ed_v 5) ha hq
  · refine go_take (et_b (et_eqS (ed_v 2) ed_str) rfl) ?_
    refine go_asg (l := .d (.list (encs (madeLong t k).flat))) 4 sc_after_step.nd (ed_callR (ds := [.list (encs t0.flat), .list (intsD (ends t0.flat)), .int p, k.enc]) ((d_by_long T).up (by decide)) hr (ea_cons (ed_v 0) (ea_cons (ed_v 3) (ea_cons (ed_v 1) (ea_cons (ed_ixL (ds := ks.map Kd.enc) (ed_callR (ds := [.list [], .list (encs t0.flat)]) (d_kinds_of T) hr (ea_cons (ed_lst (ds := []) ea_nil) (ea_cons (ed_v 0) ea_nil)) ⟨_, t0.flat, ks, rfl, .inl rfl, by omega, hS.kinds, rfl⟩) (ed_v 1) (atI_nat (by rw [List.getElem?_map, hk]; rfl))) ea_nil)))) ⟨t0.flat, rest, p, t, k, rfl, hA, hop, rfl⟩) (go_thn ?_)
    refine go_asgL (ls := (encs (t0.flat.take p ++ (madeLong t k).flat ++ rest)).map .d) 5 sc_after_step.nd (El.is (el_cat (ds := encs (t0.flat.take p) ++ encs (madeLong t k).flat) (fs := encs rest) (El.ed (el_cat (ds := encs (t0.flat.take p)) (fs := encs (madeLong t k).flat) (ed_is (El.ed (el_slice (ed_v 0) eo_none (eo_some (ed_v 1)))) ?_) (ed_v 4) (by omega)))
      (ed_is (El.ed (el_slice (ed_v 0) (eo_some (ed_ixL (ed_v 3) (ed_v 1) (atI_nat hA.ends))) eo_none)) ?_) (by rw [List.length_append]; omega)) ?_) fun a ha => ?_
    · rw [cutD_to (by rw [encs_len]; omega)]
      unfold encs
      rw [List.map_take]
    · rw [cutD_from (by rw [encs_len]; omega)]
      unfold encs
      rw [← List.map_drop, drop_app hA.eq (by rw [Tr.flat_len])]
    · rw [encs_app, encs_app]
    refine go_drop (ed_callR (ds := [.str "nodes", .int 300, .int ((encs (t0.flat.take p ++ (madeLong t k).flat ++ rest)).length : Nat)]) ((d_want_at_most T).up (by decide)) hr (ea_cons ed_str (ea_cons (ed_gi (c_MOST_NODES T)) (ea_cons (ed_is (ed_lenO (b_len T) (ed_v 5) (.head _)) (by rw [List.length_map])) ea_nil))) ⟨_, _, _, rfl, by rw [encs_len]; have := hS.most; omega, rfl⟩) ?_
    exact go_retL (ed_v 5) ha hq
def R_first : List PyData → PyData → Prop := fun ds d => ∃ (t0 : Tr) (ks : List Kd) (p : Nat) (n : Nd) (k : Kd) (rule : Str), ds = [.list (encs t0.flat), .int p, .str rule] ∧ KindsR t0.flat ks ∧ t0.flat.length ≤ 300 ∧ t0.flat[p]? = some n ∧ ks[p]? = some k ∧ d = .bool ((rulesL t0.flat p n k).contains rule)
theorem d_is_first_at (T : Tx w K mg) : Def P w K mg base CX0 "is_first_at" 9 ["nodes", "position", "rule"] (spR K R_first) := by
  refine def_R (f_is_first_at T) (g_is_first_at T) sc_is_first_at (fun _ _ _ _ _ _ us hl => match us, hl with | [_, _, _], _ => rfl) (fun ds d h => by obtain ⟨t0, ks, p, n, k, rule, rfl, hK, hz, hn, hk, rfl⟩ := h; rfl) fun cdv A outer s H E hr ds d h O D hD hq => ?_
  obtain ⟨t0, ks, p, n, k, rule, rfl, hK, hz, hn, hk, rfl⟩ := h
  refine go_ret (ed_inEv (Φ := fun l => ∃ ys : List Str, ys.Perm (rulesL t0.flat p n k) ∧ l = .d (.list (ys.map .str))) (ed_v 2) (Ex.ev (P := fun M' lo => M' = [] ∧ ∃ ys : List Str, ys.Perm (rulesL t0.flat p n k) ∧ lo = .d (.list (ys.map .str))) (ex_call ((d_rules_at T).up (by decide)) hr (ea_cons (ed_v 0) (ea_cons (ed_callR (ds := [.list [], .list (encs t0.flat)]) ((d_kinds_of T).up (by decide)) hr (ea_cons (ed_lst (ds := []) ea_nil) (ea_cons (ed_v 0) ea_nil)) ⟨_, t0.flat, ks, rfl, .inl rfl, by omega, hK, rfl⟩)
    (ea_cons (ed_callR (ds := [.list (encs t0.flat)]) ((d_held_marks T).up (by decide)) hr (ea_cons (ed_v 0) ea_nil) ⟨t0.flat, rfl, treeL_flat t0, by omega, rfl⟩) (ea_cons (ed_v 1) ea_nil)))).ac ?_) fun M' l' h => h) fun l h => ?_) hq
  · rintro M1 ls ⟨rfl, rfl⟩
    refine ⟨[], [], _, List.Perm.refl _, ⟨t0.flat, ks, p, n, k, rfl, rfl, treeL_flat t0, hn, hk, rfl⟩, fun M' lo h => ?_⟩
    obtain ⟨rfl, h⟩ := h
    exact ⟨rfl, h⟩
  · obtain ⟨ys, hp, rfl⟩ := h
    refine ⟨ys, rfl, ?_⟩
    rw [Bool.eq_iff_iff]
    simp only [List.contains_iff_mem]
    exact hp.mem_iff
end
end K32

set_option maxRecDepth 100000
set_option maxHeartbeats 4000000
namespace K32
open PySem L2
def ruleS : List Str := ["call", "first", "second", "which", "turns", "next", "let", "long"]
theorem isRule_word {l : List Nd} {p : Nat} {n : Nd} (hn : l[p]? = some n) (h : isRule l p = true) : ruleS.contains n.word = true := by
  unfold isRule at h
  rw [hn] at h
  cases n <;> first | rfl | (simp [wantW] at h; done)
theorem rules_in {l : List Nd} {p : Nat} {n : Nd} {k : Kd} {rule : Str} (hn : l[p]? = some n) (h : (rulesL l p n k).contains rule = true) : ruleS.contains rule = true := by
  unfold rulesL rulesA at h
  rw [List.contains_iff_mem, List.mem_append] at h
  rcases h with h | h
  · split at h
    · rename_i q
      rw [List.mem_singleton.mp h]
      exact isRule_word hn q
    · cases h
  · split at h
    · rw [List.mem_singleton.mp h]; rfl
    · cases h
section
variable {P : Program} {w : World} {K : PySem.W.Frag} {mg : Str → Option Value} {base : Heap}
def R_stepped : List PyData → List PyData → Prop := fun ds es => ∃ (e : PyData) (t0 : Tr) (p : Nat) (t : Tr) (rest : List Nd) (rule : Str) (t' : Tr) (ks : List Kd) (k : Kd), ds = [e, .int p, .str rule] ∧ SeqD e (encs t0.flat) ∧ Prog t0.flat ks ∧ Stp t0 p t rest rule t' ks ∧ ks[p]? = some k ∧ (rulesL t0.flat p t.node k).contains rule = true ∧ es = encs (t0.flat.take p ++ t'.flat ++ rest)
theorem b_stepped (T : Tx w K mg) : Body P w K mg base "stepped" s_stepped N_stepped (He.ga K "stepped") 11 fun X => ∀ ds es, R_stepped ds es → ∀ (O : Og) (D : Ends), D.nx = (fun _ H' => D.rt .non H') →
      (∀ B H' a M ρ σ, Sit K O B ((a, .lst (es.map .d)) :: M) ρ σ H' → O.H a = none → D.rt (.ref a) H') → Go X O [] (at0 N_stepped ds) D (defBody s_stepped) := fun cdv A outer s H E hr ds es h O D hD hq => by
  obtain ⟨e, t0, p, t, rest, rule, t', ks, k, rfl, he, hP, hS, hk, hr1, rfl⟩ := h
  have hA := hS.at_
  have hl := hA.len
  have htp := t.size_pos
  refine go_asg (l := .d (.list (encs t0.flat))) 3 sc_stepped.nd (ed_callR (ds := [e]) (d_want_program T) hr (ea_cons (ed_v 0) ea_nil) ⟨e, t0.flat, ks, rfl, he, hP, rfl⟩) ?_
  refine go_drop (ed_callR (ds := [.list (encs t0.flat), .int p]) ((d_want_position T).up (by decide)) hr (ea_cons (ed_v 3) (ea_cons (ed_v 1) ea_nil)) ⟨_, encs t0.flat, p, rfl, .inl rfl, by rw [encs_len]; omega, rfl⟩) ?_
  refine go_skip (et_b (et_or (et_b (k' := false) (et_not (et_v (ed_isn "str" "str" true (b_isinstance T) (ed_v 2) (b_str T)))) rfl) fun _ => et_b (k' := false) (et_ninS (ed_v 2) (ed_rules T)) (by have := rules_in hA.get hr1; unfold ruleS at this; rw [this]; rfl)) rfl) ?_
  refine go_skip (et_b (et_not (et_v (ed_callR (ds := [.list (encs t0.flat), .int p, .str rule]) ((d_is_first_at T).up (by decide)) hr (ea_cons (ed_v 3) (ea_cons (ed_v 1) (ea_cons (ed_v 2) ea_nil))) ⟨t0, ks, p, t.node, k, rule, rfl, hP.kinds, hP.most, hA.get, hk, rfl⟩))) (by rw [hr1]; rfl)) ?_
  exact go_retEl (el_callL (ds := [.list (encs t0.flat), .int p, .str rule]) ((d_after_step T).up (by decide)) hr (ea_cons (ed_v 3) (ea_cons (ed_v 1) (ea_cons (ed_v 2) ea_nil))) ⟨t0, p, t, rest, rule, t', ks, rfl, hS, rfl⟩) hq
theorem d_stepped (T : Tx w K mg) : Def P w K mg base CX0 "stepped" 12 ["program", "position", "rule"] (spL K R_stepped) :=
  def_L (f_stepped T) (g_stepped T) sc_stepped (fun _ _ _ _ _ _ us hl => match us, hl with | [_, _, _], _ => rfl) (fun ds es h => by obtain ⟨e, t0, p, t, rest, rule, t', ks, k, rfl, he, hP, hS, hk, hr1, rfl⟩ := h; rfl) (b_stepped T)
end
end K32

/-! # The kinds of a row that is a tree's, by the tree's kinds (plain) -/
namespace K32
open PySem
inductive Chain (l : List Nd) : Nat → List Fr → KV → Nat → List Fr → KV → Prop
  | refl {p : Nat} {fs : List Fr} {kv : KV} : Chain l p fs kv p fs kv
  | cons {p q : Nat} {fs fs1 fs2 : List Fr} {kv kv1 kv2 : KV} : Trn l p fs kv fs1 kv1 → Chain l (p + 1) fs1 kv1 q fs2 kv2 → Chain l p fs kv q fs2 kv2
theorem Chain.trans {l : List Nd} {p q r : Nat} {fs fs1 fs2 : List Fr} {kv kv1 kv2 : KV} (h : Chain l p fs kv q fs1 kv1) (g : Chain l q fs1 kv1 r fs2 kv2) : Chain l p fs kv r fs2 kv2 := by
  induction h with
  | refl => exact g
  | cons h1 _ ih => exact .cons h1 (ih g)
theorem Chain.le {l : List Nd} {p q : Nat} {fs fs1 : List Fr} {kv kv1 : KV} (h : Chain l p fs kv q fs1 kv1) : p ≤ q := by
  induction h with
  | refl => exact Nat.le_refl _
  | cons _ _ ih => omega
theorem Chain.fn {l : List Nd} {p q : Nat} {fs fs1 : List Fr} {kv kv1 : KV} (h : Chain l p fs kv q fs1 kv1) : ∃ ch : Nat → List Fr × KV, ch p = (fs, kv) ∧ ch q = (fs1, kv1) ∧ ∀ i, p ≤ i → i < q → Trn l i (ch i).1 (ch i).2 (ch (i + 1)).1 (ch (i + 1)).2 := by
  induction h with
  | @refl p fs kv => exact ⟨fun _ => (fs, kv), rfl, rfl, fun i h1 h2 => by omega⟩
  | @cons p q fs fs1 fs2 kv kv1 kv2 h1 h2 ih =>
    obtain ⟨ch, e1, e2, e3⟩ := ih
    have hle := h2.le
    refine ⟨fun i => if i = p then (fs, kv) else ch i, by simp, by dsimp only; rw [if_neg (by omega)]; exact e2, fun i g1 g2 => ?_⟩
    by_cases hi : i = p
    · subst hi
      simp only [if_pos, if_neg (show ¬ i + 1 = i by omega), e1]
      exact h1
    · simp only [if_neg hi, if_neg (show ¬ i + 1 = p by omega)]
      exact e3 i (by omega) g2
def setK : KV → Nat → List Kd → KV
  | kv, _, [] => kv
  | kv, p, k :: ks => setK (kv.set p (some k)) (p + 1) ks
theorem setK_len : ∀ (ks : List Kd) (kv : KV) (p : Nat), (setK kv p ks).length = kv.length
  | [], _, _ => rfl
  | k :: ks, kv, p => by
    show (setK (kv.set p (some k)) (p + 1) ks).length = _
    rw [setK_len ks, List.length_set]
theorem setK_app : ∀ (a b : List Kd) (kv : KV) (p : Nat), setK kv p (a ++ b) = setK (setK kv p a) (p + a.length) b
  | [], b, kv, p => rfl
  | k :: a, b, kv, p => by
    show setK (kv.set p (some k)) (p + 1) (a ++ b) = setK (setK (kv.set p (some k)) (p + 1) a) (p + (a.length + 1)) b
    rw [setK_app a b, show p + 1 + a.length = p + (a.length + 1) by omega]
theorem setK_set : ∀ (ks : List Kd) (kv : KV) (p q : Nat) (x : Option Kd), q < p → (setK kv p ks).set q x = setK (kv.set q x) p ks
  | [], _, _, _, _, _ => rfl
  | k :: ks, kv, p, q, x, h => by
    show (setK (kv.set p (some k)) (p + 1) ks).set q x = setK ((kv.set q x).set p (some k)) (p + 1) ks
    rw [setK_set ks _ (p + 1) q x (by omega), List.set_comm _ _ (show p ≠ q by omega)]
theorem setK_cons (kv : KV) (p : Nat) (k : Kd) (ks : List Kd) : (setK kv (p + 1) ks).set p (some k) = setK kv p (k :: ks) := setK_set ks kv (p + 1) p _ (Nat.lt_succ_self p)
/-- from p on sz nodes, in the row Γ, come to the kind k; ks are their kinds -/
def CP (l : List Nd) (sz : Nat) (Γ : List Kd) (k : Kd) (ks : List Kd) (p : Nat) : Prop := ks.length = sz ∧ ∀ fs kv, rowAt l fs = some Γ → kv.length = l.length → ∀ fs' kv', Fnsh l (accept k fs) (setK kv p ks) fs' kv' → Chain l p fs kv (p + sz) fs' kv'
theorem rowAt_cons {l : List Nd} {n : Nd} {p : Nat} {Γ got : List Kd} {fs : List Fr} (hn : l[p]? = some n) : rowAt l (⟨p, Γ, got⟩ :: fs) = rowNext n ⟨p, Γ, got⟩ := by
  show (l[p]?).bind (fun n => rowNext n ⟨p, Γ, got⟩) = _
  rw [hn]
  rfl
section
variable {l : List Nd} {n : Nd} {p : Nat} {Γ Γ1 Γ2 Γ3 : List Kd} {k k1 k2 k3 : Kd} {K1 K2 K3 : List Kd} {s1 s2 s3 : Nat}
theorem cp0 (hn : l[p]? = some n) (hb : n.binds.length = 0) (hk : LeafK n Γ k) : CP l 1 Γ k [k] p := ⟨rfl, fun fs kv hr hl fs' kv' hF =>
  .cons (.leaf hn hr hb hk (by rw [hl]; exact (List.getElem?_eq_some_iff.mp hn).1) hF) .refl⟩
theorem cp1 (hn : l[p]? = some n) (hb : n.binds.length = 1) (r1 : rowNext n ⟨p, Γ, []⟩ = some Γ1) (c1 : CP l s1 Γ1 k1 K1 (p + 1)) (hk : kindBy n [k1] = some k) (d1 : k1.deep ≤ 100) : CP l (1 + s1) Γ k (k :: K1) p := by
  obtain ⟨l1, c1⟩ := c1
  refine ⟨by simp [l1]; omega, fun fs kv hr hl fs' kv' hF => ?_⟩
  have hp := (List.getElem?_eq_some_iff.mp hn).1
  refine .cons (.node hn hr (by omega)) ?_
  have z := c1 (⟨p, Γ, []⟩ :: fs) kv (by rw [rowAt_cons hn]; exact r1) hl fs' kv' ?_
  · rw [show p + (1 + s1) = p + 1 + s1 by omega]
    exact z
  · refine Fnsh.pop (n := n) (k := k) hn (by show ¬ ([] ++ [k1]).length < _; simp [hb]) (by simp; exact d1) hk (by rw [setK_len, hl]; exact hp) ?_
    rw [setK_cons]
    exact hF
theorem cp2 (hn : l[p]? = some n) (hb : n.binds.length = 2) (r1 : rowNext n ⟨p, Γ, []⟩ = some Γ1) (c1 : CP l s1 Γ1 k1 K1 (p + 1)) (r2 : rowNext n ⟨p, Γ, [k1]⟩ = some Γ2) (c2 : CP l s2 Γ2 k2 K2 (p + 1 + s1))
    (hk : kindBy n [k1, k2] = some k) (d1 : k1.deep ≤ 100) (d2 : k2.deep ≤ 100) : CP l (1 + s1 + s2) Γ k (k :: (K1 ++ K2)) p := by
  obtain ⟨l1, c1⟩ := c1
  obtain ⟨l2, c2⟩ := c2
  refine ⟨by simp [l1, l2]; omega, fun fs kv hr hl fs' kv' hF => ?_⟩
  have hp := (List.getElem?_eq_some_iff.mp hn).1
  refine .cons (.node hn hr (by omega)) ?_
  refine (c1 (⟨p, Γ, []⟩ :: fs) kv (by rw [rowAt_cons hn]; exact r1) hl _ _ (Fnsh.stop (n := n) hn (by show ([] ++ [k1]).length < _; simp [hb]))).trans ?_
  have z := c2 (⟨p, Γ, [k1]⟩ :: fs) (setK kv (p + 1) K1) (by rw [rowAt_cons hn]; exact r2) (by rw [setK_len]; exact hl) fs' kv' ?_
  · rw [show p + (1 + s1 + s2) = p + 1 + s1 + s2 by omega]
    exact z
  · refine Fnsh.pop (n := n) (k := k) hn (by show ¬ ([k1] ++ [k2]).length < _; simp [hb]) (by simp; exact ⟨d1, d2⟩) hk (by rw [setK_len, setK_len, hl]; exact hp) ?_
    rw [← l1, ← setK_app, setK_cons]
    exact hF
theorem cp3 (hn : l[p]? = some n) (hb : n.binds.length = 3) (r1 : rowNext n ⟨p, Γ, []⟩ = some Γ1) (c1 : CP l s1 Γ1 k1 K1 (p + 1)) (r2 : rowNext n ⟨p, Γ, [k1]⟩ = some Γ2) (c2 : CP l s2 Γ2 k2 K2 (p + 1 + s1)) (r3 : rowNext n ⟨p, Γ, [k1, k2]⟩ = some Γ3) (c3 : CP l s3 Γ3 k3 K3 (p + 1 + s1 + s2))
    (hk : kindBy n [k1, k2, k3] = some k) (d1 : k1.deep ≤ 100) (d2 : k2.deep ≤ 100) (d3 : k3.deep ≤ 100) : CP l (1 + s1 + s2 + s3) Γ k (k :: (K1 ++ (K2 ++ K3))) p := by
  obtain ⟨l1, c1⟩ := c1
  obtain ⟨l2, c2⟩ := c2
  obtain ⟨l3, c3⟩ := c3
  refine ⟨by simp [l1, l2, l3]; omega, fun fs kv hr hl fs' kv' hF => ?_⟩
  have hp := (List.getElem?_eq_some_iff.mp hn).1
  refine .cons (.node hn hr (by omega)) ?_
  refine (c1 (⟨p, Γ, []⟩ :: fs) kv (by rw [rowAt_cons hn]; exact r1) hl _ _ (Fnsh.stop (n := n) hn (by show ([] ++ [k1]).length < _; simp [hb]))).trans ?_
  refine (c2 (⟨p, Γ, [k1]⟩ :: fs) (setK kv (p + 1) K1) (by rw [rowAt_cons hn]; exact r2) (by rw [setK_len]; exact hl) _ _ (Fnsh.stop (n := n) hn (by show ([k1] ++ [k2]).length < _; simp [hb]))).trans ?_
  have z := c3 (⟨p, Γ, [k1, k2]⟩ :: fs) (setK (setK kv (p + 1) K1) (p + 1 + s1) K2) (by rw [rowAt_cons hn]; exact r3) (by rw [setK_len, setK_len]; exact hl) fs' kv' ?_
  · rw [show p + (1 + s1 + s2 + s3) = p + 1 + s1 + s2 + s3 by omega]
    exact z
  · refine Fnsh.pop (n := n) (k := k) hn (by show ¬ ([k1, k2] ++ [k3]).length < _; simp [hb]) (by simp; exact ⟨d1, d2, d3⟩) hk (by rw [setK_len, setK_len, setK_len, hl]; exact hp) ?_
    rw [← l1, ← l2, ← setK_app, ← setK_app, setK_cons]
    exact hF
end
/-- the kind, where there is one -/
def kOf (Γ : List Kd) (t : Tr) : Kd := (ty Γ t).getD .cnt
def Kd.one : Kd → Kd
  | .sm a _ => a
  | k => k
def Kd.two : Kd → Kd
  | .sm _ b => b
  | k => k
/-- the kinds of all the trees within, in the row's order -/
def kds : List Kd → Tr → List Kd
  | Γ, .name i => [kOf Γ (.name i)]
  | Γ, .told n => [kOf Γ (.told n)]
  | Γ, .fn A b => kOf Γ (.fn A b) :: kds (A :: Γ) b
  | Γ, .call f a => kOf Γ (.call f a) :: (kds Γ f ++ kds Γ a)
  | Γ, .both a b => kOf Γ (.both a b) :: (kds Γ a ++ kds Γ b)
  | Γ, .first q => kOf Γ (.first q) :: kds Γ q
  | Γ, .second q => kOf Γ (.second q) :: kds Γ q
  | Γ, .left B a => kOf Γ (.left B a) :: kds Γ a
  | Γ, .right A a => kOf Γ (.right A a) :: kds Γ a
  | Γ, .which s l r => kOf Γ (.which s l r) :: (kds Γ s ++ (kds ((kOf Γ s).one :: Γ) l ++ kds ((kOf Γ s).two :: Γ) r))
  | Γ, .next q => kOf Γ (.next q) :: kds Γ q
  | Γ, .turns A n u s => kOf Γ (.turns A n u s) :: (kds Γ n ++ (kds (A :: Γ) u ++ kds Γ s))
  | Γ, .lt a b => kOf Γ (.lt a b) :: (kds Γ a ++ kds (kOf Γ a :: Γ) b)
theorem kOf_eq {Γ : List Kd} {t : Tr} {k : Kd} (h : ty Γ t = some k) : kOf Γ t = k := by unfold kOf; rw [h]; rfl
theorem bnd {α β : Type} {o : Option α} {f : α → Option β} {b : β} (h : o.bind f = some b) : ∃ a, o = some a ∧ f a = some b := by
  cases o with
  | none => cases h
  | some a => exact ⟨a, rfl, h⟩
theorem tyWhich {Γ : List Kd} {s l r : Tr} {k : Kd} (h : ty Γ (.which s l r) = some k) : ∃ a b, ty Γ s = some (.sm a b) ∧ ty (a :: Γ) l = some k ∧ ty (b :: Γ) r = some k := by
  unfold ty at h
  split at h
  · rename_i a b hs
    obtain ⟨kl, h1, h⟩ := bnd h
    obtain ⟨kr, h2, h⟩ := bnd h
    obtain ⟨_, _, e⟩ := kb_which h
    cases e
    exact ⟨a, b, hs, h1, h2⟩
  · cases h
theorem Kd.ok_deep {k : Kd} (h : k.ok = true) : k.deep ≤ 12 := by
  unfold Kd.ok at h
  simp only [Bool.and_eq_true, decide_eq_true_eq] at h
  exact h.2
theorem deep_pos (k : Kd) : 1 ≤ k.deep := by cases k <;> simp only [Kd.deep] <;> omega
theorem ty_deep (t : Tr) : ∀ Γ k, ty Γ t = some k → (∀ a ∈ Γ, a.deep ≤ 12) → (∀ n ∈ t.flat, n.ok = true) → k.deep ≤ 12 := by
  induction t with
  | name i => intro Γ k h hΓ hn; exact hΓ k (List.mem_of_getElem? h)
  | told i => intro Γ k h hΓ hn; cases h; decide
  | fn A b ih => intro Γ k h hΓ hn; obtain ⟨kb, _, h⟩ := bnd h; obtain ⟨b', e, rfl, ho⟩ := kb_fn h; exact Kd.ok_deep ho
  | call f a ih1 ih2 =>
    intro Γ k h hΓ hn
    obtain ⟨kf, h1, h⟩ := bnd h
    obtain ⟨ka, h2, h⟩ := bnd h
    obtain ⟨a', e⟩ := kb_call h
    cases e
    have := ih1 Γ _ h1 hΓ fun n hm => hn n (List.mem_cons_of_mem _ (List.mem_append_left _ hm))
    simp only [Kd.deep] at this
    omega
  | both a b ih1 ih2 => intro Γ k h hΓ hn; obtain ⟨ka, _, h⟩ := bnd h; obtain ⟨kb, _, h⟩ := bnd h; obtain ⟨_, _, _, rfl, ho⟩ := kb_both h; exact Kd.ok_deep ho
  | first q ih =>
    intro Γ k h hΓ hn
    obtain ⟨kq, h1, h⟩ := bnd h
    obtain ⟨b', e⟩ := kb_first h
    cases e
    have := ih Γ _ h1 hΓ fun n hm => hn n (List.mem_cons_of_mem _ hm)
    simp only [Kd.deep] at this
    omega
  | second q ih =>
    intro Γ k h hΓ hn
    obtain ⟨kq, h1, h⟩ := bnd h
    obtain ⟨b', e⟩ := kb_second h
    cases e
    have := ih Γ _ h1 hΓ fun n hm => hn n (List.mem_cons_of_mem _ hm)
    simp only [Kd.deep] at this
    omega
  | left B a ih => intro Γ k h hΓ hn; obtain ⟨ka, _, h⟩ := bnd h; obtain ⟨_, _, rfl, ho⟩ := kb_left h; exact Kd.ok_deep ho
  | right A a ih => intro Γ k h hΓ hn; obtain ⟨ka, _, h⟩ := bnd h; obtain ⟨_, _, rfl, ho⟩ := kb_right h; exact Kd.ok_deep ho
  | which s l r ih1 ih2 ih3 =>
    intro Γ k h hΓ hn
    obtain ⟨a, b, hs, hl, hr⟩ := tyWhich h
    have hd := ih1 Γ _ hs hΓ fun n hm => hn n (List.mem_cons_of_mem _ (List.mem_append_left _ hm))
    simp only [Kd.deep] at hd
    refine ih2 _ _ hl (fun x hx => ?_) fun n hm => hn n (List.mem_cons_of_mem _ (List.mem_append_right _ (List.mem_append_left _ hm)))
    rcases List.mem_cons.mp hx with rfl | hx
    · omega
    · exact hΓ x hx
  | next q ih => intro Γ k h hΓ hn; obtain ⟨kq, _, h⟩ := bnd h; obtain ⟨_, rfl⟩ := kb_next h; decide
  | turns A n u s ih1 ih2 ih3 =>
    intro Γ k h hΓ hn
    obtain ⟨k1, _, h⟩ := bnd h
    obtain ⟨k2, _, h⟩ := bnd h
    obtain ⟨k3, h3, h⟩ := bnd h
    obtain ⟨e, rfl⟩ := kb_turns h
    cases e
    exact ih3 Γ _ h3 hΓ fun n hm => hn n (List.mem_cons_of_mem _ (List.mem_append_right _ (List.mem_append_right _ hm)))
  | lt a b ih1 ih2 =>
    intro Γ k h hΓ hn
    obtain ⟨ka, h1, h⟩ := bnd h
    obtain ⟨kb, h2, h⟩ := bnd h
    obtain ⟨_, e⟩ := kb_lt h
    cases e
    refine ih2 _ _ h2 (fun x hx => ?_) fun n hm => hn n (List.mem_cons_of_mem _ (List.mem_append_right _ hm))
    rcases List.mem_cons.mp hx with rfl | hx
    · exact ih1 Γ _ h1 hΓ fun n hm => hn n (List.mem_cons_of_mem _ (List.mem_append_left _ hm))
    · exact hΓ x hx
end K32

namespace K32
open PySem
theorem rn1 {n : Nd} {p : Nat} {Γ got : List Kd} (h : n.binds[got.length]? = some 0) : rowNext n ⟨p, Γ, got⟩ = some Γ := by unfold rowNext; rw [h]; rfl
theorem rn2 {n : Nd} {p m : Nat} {Γ got : List Kd} {k : Kd} (h : n.binds[got.length]? = some (m + 1)) (hb : boundBy n got = some k) : rowNext n ⟨p, Γ, got⟩ = some (k :: Γ) := by unfold rowNext; rw [h]; simp [hb]
theorem cp_tree {l : List Nd} (t : Tr) : ∀ Γ k p rest, ty Γ t = some k → (∀ a ∈ Γ, a.deep ≤ 12) → (∀ n ∈ t.flat, n.ok = true) → l.drop p = t.flat ++ rest → CP l t.size Γ k (kds Γ t) p := by
  have at0 : ∀ {p : Nat} {n : Nd} {r : List Nd}, l.drop p = n :: r → l[p]? = some n := fun {p n r} h => by
    have e : (l.drop p)[0]? = some n := by rw [h]; rfl
    rwa [List.getElem?_drop, Nat.add_zero] at e
  have nxt : ∀ {p : Nat} {n : Nd} {r : List Nd}, l.drop p = n :: r → l.drop (p + 1) = r := fun {p n r} h => drop_app (a := [n]) h rfl
  have nx2 : ∀ {p : Nat} {t : Tr} {r : List Nd}, l.drop p = t.flat ++ r → l.drop (p + t.size) = r := fun {p t r} h => drop_app h (by rw [Tr.flat_len])
  have d12 : ∀ {k : Kd}, k.deep ≤ 12 → k.deep ≤ 100 := fun h => by omega
  induction t with
  | name i =>
    intro Γ k p rest h hΓ hn hp
    show CP l 1 Γ k [kOf Γ (.name i)] p
    rw [kOf_eq h]
    refine cp0 (n := .name i) (at0 hp) rfl (.inl ⟨i, rfl, h, ?_⟩)
    have := hn (.name i) List.mem_cons_self
    simp [Nd.ok] at this
    omega
  | told i =>
    intro Γ k p rest h hΓ hn hp
    show CP l 1 Γ k [kOf Γ (.told i)] p
    rw [kOf_eq h]
    cases h
    exact cp0 (n := .told i) (at0 hp) rfl (.inr ⟨i, rfl, rfl⟩)
  | fn A b ih =>
    intro Γ k p rest h hΓ hn hp
    have h0 := h
    obtain ⟨kb, h1, h⟩ := bnd h
    have hn1 : ∀ n ∈ b.flat, n.ok = true := fun n hm => hn n (List.mem_cons_of_mem _ hm)
    have hA : A.deep ≤ 12 := by have := hn (.fn A) List.mem_cons_self; exact Kd.ok_deep (by simpa [Nd.ok] using this)
    have hΓ1 : ∀ a ∈ A :: Γ, a.deep ≤ 12 := fun x hx => by
      rcases List.mem_cons.mp hx with rfl | hx
      · exact hA
      · exact hΓ x hx
    show CP l (1 + b.size) Γ k (kOf Γ (.fn A b) :: kds (A :: Γ) b) p
    rw [kOf_eq h0]
    exact cp1 (n := .fn A) (at0 hp) rfl (rn2 rfl rfl) (ih _ _ _ rest h1 hΓ1 hn1 (nxt hp)) h (d12 (ty_deep b _ _ h1 hΓ1 hn1))
  | first b ih =>
    intro Γ k p rest h hΓ hn hp
    have h0 := h
    obtain ⟨kb, h1, h⟩ := bnd h
    have hn1 : ∀ n ∈ b.flat, n.ok = true := fun n hm => hn n (List.mem_cons_of_mem _ hm)
    show CP l (1 + b.size) Γ k (kOf Γ (.first b) :: kds Γ b) p
    rw [kOf_eq h0]
    exact cp1 (n := .first) (at0 hp) rfl (rn1 rfl) (ih _ _ _ rest h1 hΓ hn1 (nxt hp)) h (d12 (ty_deep b _ _ h1 hΓ hn1))
  | second b ih =>
    intro Γ k p rest h hΓ hn hp
    have h0 := h
    obtain ⟨kb, h1, h⟩ := bnd h
    have hn1 : ∀ n ∈ b.flat, n.ok = true := fun n hm => hn n (List.mem_cons_of_mem _ hm)
    show CP l (1 + b.size) Γ k (kOf Γ (.second b) :: kds Γ b) p
    rw [kOf_eq h0]
    exact cp1 (n := .second) (at0 hp) rfl (rn1 rfl) (ih _ _ _ rest h1 hΓ hn1 (nxt hp)) h (d12 (ty_deep b _ _ h1 hΓ hn1))
  | left B b ih =>
    intro Γ k p rest h hΓ hn hp
    have h0 := h
    obtain ⟨kb, h1, h⟩ := bnd h
    have hn1 : ∀ n ∈ b.flat, n.ok = true := fun n hm => hn n (List.mem_cons_of_mem _ hm)
    show CP l (1 + b.size) Γ k (kOf Γ (.left B b) :: kds Γ b) p
    rw [kOf_eq h0]
    exact cp1 (n := .left B) (at0 hp) rfl (rn1 rfl) (ih _ _ _ rest h1 hΓ hn1 (nxt hp)) h (d12 (ty_deep b _ _ h1 hΓ hn1))
  | right B b ih =>
    intro Γ k p rest h hΓ hn hp
    have h0 := h
    obtain ⟨kb, h1, h⟩ := bnd h
    have hn1 : ∀ n ∈ b.flat, n.ok = true := fun n hm => hn n (List.mem_cons_of_mem _ hm)
    show CP l (1 + b.size) Γ k (kOf Γ (.right B b) :: kds Γ b) p
    rw [kOf_eq h0]
    exact cp1 (n := .right B) (at0 hp) rfl (rn1 rfl) (ih _ _ _ rest h1 hΓ hn1 (nxt hp)) h (d12 (ty_deep b _ _ h1 hΓ hn1))
  | next b ih =>
    intro Γ k p rest h hΓ hn hp
    have h0 := h
    obtain ⟨kb, h1, h⟩ := bnd h
    have hn1 : ∀ n ∈ b.flat, n.ok = true := fun n hm => hn n (List.mem_cons_of_mem _ hm)
    show CP l (1 + b.size) Γ k (kOf Γ (.next b) :: kds Γ b) p
    rw [kOf_eq h0]
    exact cp1 (n := .next) (at0 hp) rfl (rn1 rfl) (ih _ _ _ rest h1 hΓ hn1 (nxt hp)) h (d12 (ty_deep b _ _ h1 hΓ hn1))
  | call f a ih1 ih2 =>
    intro Γ k p rest h hΓ hn hp
    have h0 := h
    obtain ⟨k1, h1, h⟩ := bnd h
    obtain ⟨k2, h2, h⟩ := bnd h
    have hn1 : ∀ n ∈ f.flat, n.ok = true := fun n hm => hn n (List.mem_cons_of_mem _ (List.mem_append_left _ hm))
    have hn2 : ∀ n ∈ a.flat, n.ok = true := fun n hm => hn n (List.mem_cons_of_mem _ (List.mem_append_right _ hm))
    show CP l (1 + f.size + a.size) Γ k (kOf Γ (.call f a) :: (kds Γ f ++ kds Γ a)) p
    rw [kOf_eq h0]
    have hp1 : l.drop (p + 1) = f.flat ++ (a.flat ++ rest) := by rw [← List.append_assoc]; exact nxt hp
    exact cp2 (n := .call) (at0 hp) rfl (rn1 rfl) (ih1 _ _ _ _ h1 hΓ hn1 hp1) (rn1 rfl) (ih2 _ _ _ _ h2 hΓ hn2 (nx2 hp1)) h (d12 (ty_deep f _ _ h1 hΓ hn1)) (d12 (ty_deep a _ _ h2 hΓ hn2))
  | both f a ih1 ih2 =>
    intro Γ k p rest h hΓ hn hp
    have h0 := h
    obtain ⟨k1, h1, h⟩ := bnd h
    obtain ⟨k2, h2, h⟩ := bnd h
    have hn1 : ∀ n ∈ f.flat, n.ok = true := fun n hm => hn n (List.mem_cons_of_mem _ (List.mem_append_left _ hm))
    have hn2 : ∀ n ∈ a.flat, n.ok = true := fun n hm => hn n (List.mem_cons_of_mem _ (List.mem_append_right _ hm))
    show CP l (1 + f.size + a.size) Γ k (kOf Γ (.both f a) :: (kds Γ f ++ kds Γ a)) p
    rw [kOf_eq h0]
    have hp1 : l.drop (p + 1) = f.flat ++ (a.flat ++ rest) := by rw [← List.append_assoc]; exact nxt hp
    exact cp2 (n := .both) (at0 hp) rfl (rn1 rfl) (ih1 _ _ _ _ h1 hΓ hn1 hp1) (rn1 rfl) (ih2 _ _ _ _ h2 hΓ hn2 (nx2 hp1)) h (d12 (ty_deep f _ _ h1 hΓ hn1)) (d12 (ty_deep a _ _ h2 hΓ hn2))
  | lt f a ih1 ih2 =>
    intro Γ k p rest h hΓ hn hp
    have h0 := h
    obtain ⟨k1, h1, h⟩ := bnd h
    obtain ⟨k2, h2, h⟩ := bnd h
    have hn1 : ∀ n ∈ f.flat, n.ok = true := fun n hm => hn n (List.mem_cons_of_mem _ (List.mem_append_left _ hm))
    have hn2 : ∀ n ∈ a.flat, n.ok = true := fun n hm => hn n (List.mem_cons_of_mem _ (List.mem_append_right _ hm))
    have hd1 := ty_deep f _ _ h1 hΓ hn1
    have hΓ1 : ∀ a ∈ k1 :: Γ, a.deep ≤ 12 := fun x hx => by
      rcases List.mem_cons.mp hx with rfl | hx
      · exact hd1
      · exact hΓ x hx
    show CP l (1 + f.size + a.size) Γ k (kOf Γ (.lt f a) :: (kds Γ f ++ kds (kOf Γ f :: Γ) a)) p
    rw [kOf_eq h0, kOf_eq h1]
    have hp1 : l.drop (p + 1) = f.flat ++ (a.flat ++ rest) := by rw [← List.append_assoc]; exact nxt hp
    exact cp2 (n := .lt) (at0 hp) rfl (rn1 rfl) (ih1 _ _ _ _ h1 hΓ hn1 hp1) (rn2 rfl rfl) (ih2 _ _ _ _ h2 hΓ1 hn2 (nx2 hp1)) h (d12 hd1) (d12 (ty_deep a _ _ h2 hΓ1 hn2))
  | which s u v ih1 ih2 ih3 =>
    intro Γ k p rest h hΓ hn hp
    obtain ⟨a, b, h1, h2, h3⟩ := tyWhich h
    have hn1 : ∀ n ∈ s.flat, n.ok = true := fun n hm => hn n (List.mem_cons_of_mem _ (List.mem_append_left _ hm))
    have hn2 : ∀ n ∈ u.flat, n.ok = true := fun n hm => hn n (List.mem_cons_of_mem _ (List.mem_append_right _ (List.mem_append_left _ hm)))
    have hn3 : ∀ n ∈ v.flat, n.ok = true := fun n hm => hn n (List.mem_cons_of_mem _ (List.mem_append_right _ (List.mem_append_right _ hm)))
    have hd1 := ty_deep s _ _ h1 hΓ hn1
    have hd : a.deep ≤ 12 ∧ b.deep ≤ 12 := by simp only [Kd.deep] at hd1; omega
    have hΓ1 : ∀ x ∈ a :: Γ, x.deep ≤ 12 := fun x hx => by
      rcases List.mem_cons.mp hx with rfl | hx
      · exact hd.1
      · exact hΓ x hx
    have hΓ2 : ∀ x ∈ b :: Γ, x.deep ≤ 12 := fun x hx => by
      rcases List.mem_cons.mp hx with rfl | hx
      · exact hd.2
      · exact hΓ x hx
    show CP l (1 + s.size + u.size + v.size) Γ k (kOf Γ (.which s u v) :: (kds Γ s ++ (kds ((kOf Γ s).one :: Γ) u ++ kds ((kOf Γ s).two :: Γ) v))) p
    rw [kOf_eq h, kOf_eq h1]
    have hp1 : l.drop (p + 1) = s.flat ++ (u.flat ++ (v.flat ++ rest)) := by rw [← List.append_assoc u.flat, ← List.append_assoc]; exact nxt hp
    exact cp3 (n := .which) (at0 hp) rfl (rn1 rfl) (ih1 _ _ _ _ h1 hΓ hn1 hp1) (rn2 rfl rfl) (ih2 _ _ _ _ h2 hΓ1 hn2 (nx2 hp1)) (rn2 rfl rfl) (ih3 _ _ _ _ h3 hΓ2 hn3 (nx2 (nx2 hp1))) (by show (if k = k then some k else none) = some k; rw [if_pos rfl]) (d12 hd1) (d12 (ty_deep u _ _ h2 hΓ1 hn2)) (d12 (ty_deep v _ _ h3 hΓ2 hn3))
  | turns A s u v ih1 ih2 ih3 =>
    intro Γ k p rest h hΓ hn hp
    have h0 := h
    obtain ⟨k1, h1, h⟩ := bnd h
    obtain ⟨k2, h2, h⟩ := bnd h
    obtain ⟨k3, h3, h⟩ := bnd h
    have hn1 : ∀ n ∈ s.flat, n.ok = true := fun n hm => hn n (List.mem_cons_of_mem _ (List.mem_append_left _ hm))
    have hn2 : ∀ n ∈ u.flat, n.ok = true := fun n hm => hn n (List.mem_cons_of_mem _ (List.mem_append_right _ (List.mem_append_left _ hm)))
    have hn3 : ∀ n ∈ v.flat, n.ok = true := fun n hm => hn n (List.mem_cons_of_mem _ (List.mem_append_right _ (List.mem_append_right _ hm)))
    have hA : A.deep ≤ 12 := by have := hn (.turns A) List.mem_cons_self; exact Kd.ok_deep (by simpa [Nd.ok] using this)
    have hΓ1 : ∀ x ∈ A :: Γ, x.deep ≤ 12 := fun x hx => by
      rcases List.mem_cons.mp hx with rfl | hx
      · exact hA
      · exact hΓ x hx
    show CP l (1 + s.size + u.size + v.size) Γ k (kOf Γ (.turns A s u v) :: (kds Γ s ++ (kds (A :: Γ) u ++ kds Γ v))) p
    rw [kOf_eq h0]
    have hp1 : l.drop (p + 1) = s.flat ++ (u.flat ++ (v.flat ++ rest)) := by rw [← List.append_assoc u.flat, ← List.append_assoc]; exact nxt hp
    exact cp3 (n := .turns A) (at0 hp) rfl (rn1 rfl) (ih1 _ _ _ _ h1 hΓ hn1 hp1) (rn2 rfl rfl) (ih2 _ _ _ _ h2 hΓ1 hn2 (nx2 hp1)) (rn1 rfl) (ih3 _ _ _ _ h3 hΓ hn3 (nx2 (nx2 hp1))) h (d12 (ty_deep s _ _ h1 hΓ hn1)) (d12 (ty_deep u _ _ h2 hΓ1 hn2)) (d12 (ty_deep v _ _ h3 hΓ hn3))
theorem setK_all : ∀ (ks : List Kd) (pre : KV) (m : Nat), m = ks.length → setK (pre ++ List.replicate m none) pre.length ks = pre ++ ks.map some
  | [], pre, _, h => by subst h; rfl
  | k :: ks, pre, m, h => by
    subst h
    show setK ((pre ++ none :: List.replicate ks.length none).set pre.length (some k)) (pre.length + 1) ks = _
    rw [List.set_append_right _ _ (Nat.le_refl _), Nat.sub_self, List.set_cons_zero]
    have z := setK_all ks (pre ++ [some k]) ks.length rfl
    rw [List.length_append, List.length_singleton, List.append_assoc, List.append_assoc] at z
    exact z
/-- a tree with a kind has these kinds in its row -/
theorem kinds_tree {t : Tr} {k : Kd} (h : ty [] t = some k) (hn : ∀ n ∈ t.flat, n.ok = true) : KindsR t.flat (kds [] t) := by
  obtain ⟨hl, c⟩ := cp_tree (l := t.flat) t [] k 0 [] h (fun a ha => by cases ha) hn (by rw [List.append_nil]; rfl)
  have e := setK_all (kds [] t) [] t.flat.length (by rw [hl, Tr.flat_len])
  have z := c [] (List.replicate t.flat.length none) rfl (by simp) [] ((kds [] t).map some) (by
    show Fnsh _ [] _ _ _
    have e2 : setK (List.replicate t.flat.length none) 0 (kds [] t) = (kds [] t).map some := e
    rw [e2]
    exact .nil)
  obtain ⟨ch, e1, e2, e3⟩ := z.fn
  rw [Nat.zero_add, ← Tr.flat_len] at e2 e3
  exact ⟨ch, e1, fun i hi => e3 i (Nat.zero_le _) hi, e2⟩
end K32

set_option maxRecDepth 100000
set_option maxHeartbeats 4000000
namespace K32
open PySem L2
theorem prog_tree {t : Tr} {k : Kd} (h : ty [] t = some k) (hn : ∀ n ∈ t.flat, n.ok = true) (hs : t.size ≤ 300) : Prog t.flat (kds [] t) :=
  ⟨treeL_flat t, by rw [Tr.flat_len]; exact t.size_pos, by rw [Tr.flat_len]; exact hs, hn, kinds_tree h hn⟩
theorem deep_part {t s : Tr} (h : s ∈ t.parts) : s.deep + 1 ≤ t.deep := by
  cases t <;> simp only [Tr.parts, List.mem_cons, List.not_mem_nil, or_false] at h <;> (try cases h; done) <;> simp only [Tr.deep] <;> first | (subst h; omega) | (rcases h with rfl | rfl <;> omega) | (rcases h with rfl | rfl | rfl <;> omega)
theorem flats_len (ts : List Tr) : (Tr.flats ts).length = (ts.map Tr.size).sum := by
  induction ts with
  | nil => rfl
  | cons t ts ih =>
    show (t.flat ++ Tr.flats ts).length = t.size + (ts.map Tr.size).sum
    rw [List.length_append, ih, Tr.flat_len]
section
variable {P : Program} {w : World} {K : PySem.W.Frag} {mg : Str → Option Value} {base : Heap}
variable {X : Cx} {O : Og} {M : Owns} {ρ : List Lo} {a : Expr} {p1 pos : Pos} {j : Nat}
/-- tree[0], tree[1] -/
theorem ed_t0 {t : Tr} (h : Ed X O M ρ a (.d t.enc)) : Ed X O M ρ (.Subscript a (.Constant (.int 0) j p1) pos) (.d t.node.enc) := by
  rw [t.enc_eq] at h
  exact ed_ixT h ed_int (atI_nat (j := 0) rfl)
theorem ed_t1 {t : Tr} (h : Ed X O M ρ a (.d t.enc)) : Ed X O M ρ (.Subscript a (.Constant (.int 1) j p1) pos) (.d (.list (t.parts.map Tr.enc))) := by
  rw [t.enc_eq] at h
  exact ed_ixT h ed_int (atI_nat (j := 1) rfl)
def R_lflat (n : Nat) : List PyData → PyData → Prop := fun ds d => ∃ t : Tr, ds = [t.enc] ∧ t.deep ≤ n ∧ t.size ≤ 90000 ∧ d = .list (encs t.flat)
theorem d_lflat (T : Tx w K mg) : ∀ n, Def P w K mg base CX0 "_law_flat" (n + 1) ["_law_tree_here"] (spR K (R_lflat n)) := by
  intro n
  induction n with
  | zero =>
    refine def_R (f__law_flat T) (g__law_flat T) sc__law_flat (fun _ _ _ _ _ _ us hl => match us, hl with | [_], _ => rfl) (fun ds d h => by obtain ⟨t, rfl, _⟩ := h; rfl) fun cdv A outer s H E hr ds d h O D hD hq => ?_
    obtain ⟨t, rfl, h, _⟩ := h
    cases t <;> simp only [Tr.deep] at h <;> omega
  | succ n ih =>
    refine def_R (f__law_flat T) (g__law_flat T) sc__law_flat (fun _ _ _ _ _ _ us hl => match us, hl with | [_], _ => rfl) (fun ds d h => by obtain ⟨t, rfl, _⟩ := h; rfl) fun cdv A outer s H E hr ds d h O D hD hq => ?_
    obtain ⟨t, rfl, hd, hz, rfl⟩ := h
    refine go_asgL (ls := (encs [t.node]).map .d) 1 sc__law_flat.nd (el_lst (ea_cons (ed_t0 (ed_v 0)) ea_nil) (by rw [List.length_map, encs_len]; exact Nat.le_of_ble_eq_true rfl)) fun p hp => ?_
    have hfl := Tr.flat_len t
    rw [Tr.flat_eq, List.length_cons] at hfl
    refine go_for (fun i => [(p, .lst ((encs (t.node :: Tr.flats (t.parts.take i))).map .d))]) (fun i => [.d t.enc, .v (.ref p), .no]) (it_list (ed_t1 (ed_v 0))) (pg_name (i := 2) sc__law_flat.nd rfl (.inl rfl)) (by rw [List.take_zero]; rfl) rfl (fun L i hi => ⟨_, tg_name 2, ?_⟩) ?_
    · rw [List.length_map] at hi
      obtain ⟨s, hs⟩ := get_lt hi
      have e : (t.parts.map Tr.enc).getD i .none = s.enc := by rw [List.getD_eq_getElem?_getD, List.getElem?_map, hs]; rfl
      rw [e]
      have hds := deep_part (List.mem_of_getElem? hs)
      have e2 : Tr.flats (t.parts.take (i + 1)) = Tr.flats (t.parts.take i) ++ s.flat := by
        rw [take_succ' hs]
        simp [Tr.flats]
      have hle : (Tr.flats (t.parts.take (i + 1))).length ≤ (Tr.flats t.parts).length := by
        rw [flats_len, flats_len, List.map_take]
        have e3 : (t.parts.map Tr.size).sum = ((t.parts.map Tr.size).take (i + 1)).sum + ((t.parts.map Tr.size).drop (i + 1)).sum := by rw [← List.sum_append, List.take_append_drop]
        omega
      rw [e2, List.length_append, Tr.flat_len] at hle
      refine go_extend (ds := encs s.flat) 0 1 (ed_v 1) rfl (ed_callR (ds := [s.enc]) ih hr (ea_cons (ed_v 2) ea_nil) ⟨s, rfl, by omega, by omega, rfl⟩) (by rw [List.length_map, encs_len, encs_len, List.length_cons, Tr.flat_len]; omega) ?_
      refine go_turnW ?_
      rw [e2, ← List.map_append, ← encs_app]
      rfl
    · rw [List.length_map, List.take_length, ← Tr.flat_eq]
      exact go_freeze 0 1 hp (go_ret (ed_v 1) hq) rfl
end
end K32

set_option maxRecDepth 100000
set_option maxHeartbeats 4000000
namespace K32
open PySem L2
section
variable {X : Cx} {O : Og} {M : Owns} {ρ : List Lo} {e : Expr} {pos : Pos} {D : Ends} {rest : List Stmt}
theorem go_retF (j : Nat) {p : Addr} {ds : List PyData} (he : Ed X O M ρ e (.v (.ref p))) (hj : M[j]? = some (p, .lst (ds.map .d))) (hO : O.H p = none) (hq : RetOk X.K O D (.list ds)) : Go X O M ρ D (.Return (some e) pos :: rest) :=
  go_cons fun B σ H S => wS_of (ps_ret pe_w) (he B σ H S _ fun v B1 H1 e1 S1 r1 => by
    have ev : v = .ref p := r1
    subst ev
    obtain ⟨h1, ⟨o, h2, xs, rfl, h3⟩, h4⟩ := S1.own _ (List.mem_of_getElem? hj)
    have hb : Same B1 (upd B1 p (.lst xs)) := fun b u q => by rw [upd_ne (ne_of_none q h1)]; exact q
    exact hq _ H1 _ (S1.freeze j hj h2 hO).nx (.lst upd_same ((Los.da h3).mono hb)))
end
section
variable {X : Cx} {O : Og} {M : Owns} {ρ : List Lo} {e : Expr}
theorem ap_consL {x : Str} {trs : List (TE × TE)} {ls : List Lo} {P2 : Addr → Owns → KVs → Prop} (h1 : El X O M ρ e ls) (h2 : ∀ p, O.H p = none → Ap X O ((p, .lst ls) :: M) ρ trs (P2 p)) :
    Ap X O M ρ ((tC (.str x), wE X e) :: trs) (fun M' kvs => ∃ p r, O.H p = none ∧ kvs = (x, .ref p) :: r ∧ P2 p M' r) := fun B σ H S Q q => h1 B σ H S _ fun p B1 H1 hO e1 S1 =>
  h2 p hO B1 σ H1 S1 _ fun kvs M' B2 H2 f e2 S2 => q ((x, .ref p) :: kvs) M' B2 H2 ⟨p, kvs, hO, rfl, f⟩ (e1.trans e2) S2
end
section
variable {P : Program} {w : World} {K : PySem.W.Frag} {mg : Str → Option Value} {base : Heap}
def R_lbinds : List PyData → PyData → Prop := fun ds d => ∃ n : Nd, ds = [.str n.word] ∧ d = .list (intsD n.binds)
def oneK (p1 p2 p3 p4 p5 p6 p7 : Addr) : List (Key × V) := mergeK [] (keysK [("name", .ref p1), ("told", .ref p2), ("fun", .ref p3), ("call", .ref p4), ("both", .ref p5), ("which", .ref p6), ("turns", .ref p7)])
def oneM (dp p1 p2 p3 p4 p5 p6 p7 : Addr) : Owns := [(p7, .lst ((intsD [0, 1, 0]).map .d)), (p6, .lst ((intsD [0, 1, 1]).map .d)), (p5, .lst ((intsD [0, 0]).map .d)), (p4, .lst ((intsD [0, 0]).map .d)), (p3, .lst ((intsD [1]).map .d)), (p2, .lst ((intsD []).map .d)), (p1, .lst ((intsD []).map .d)), (dp, .is (.dK (oneK p1 p2 p3 p4 p5 p6 p7)))]
theorem ex_one {X : Cx} {O : Og} {ρ : List Lo} {pos b0 b1 b2 b3 b4 b5 b6 c0 c1 c2 c3 c4 c5 c6 q0 q1 q2 q3 q4 q5 q6 q7 q8 q9 q10 : Pos} {a0 a1 a2 a3 a4 a5 a6 j0 j1 j2 j3 j4 j5 j6 j7 j8 j9 j10 : Nat} : Ex X O [] ρ (.Dict [some (.Constant (.str "name") a0 b0), some (.Constant (.str "told") a1 b1), some (.Constant (.str "fun") a2 b2), some (.Constant (.str "call") a3 b3), some (.Constant (.str "both") a4 b4), some (.Constant (.str "which") a5 b5), some (.Constant (.str "turns") a6 b6)] [(.List [] c0), (.List [] c1), (.List [(.Constant (.int 1) j0 q0)] c2), (.List [(.Constant (.int 0) j1 q1), (.Constant (.int 0) j2 q2)] c3), (.List [(.Constant (.int 0) j3 q3), (.Constant (.int 0) j4 q4)] c4), (.List [(.Constant (.int 0) j5 q5), (.Constant (.int 1) j6 q6), (.Constant (.int 1) j7 q7)] c5), (.List [(.Constant (.int 0) j8 q8), (.Constant (.int 1) j9 q9), (.Constant (.int 0) j10 q10)] c6)] pos) (fun M' l => ∃ dp p1 p2 p3 p4 p5 p6 p7, (O.H p1 = none ∧ O.H p2 = none ∧ O.H p3 = none ∧ O.H p4 = none ∧ O.H p5 = none ∧ O.H p6 = none ∧ O.H p7 = none) ∧ M' = oneM dp p1 p2 p3 p4 p5 p6 p7 ∧ l = .v (.ref dp)) := by
  refine ex_disp (trs := [(tC (.str "name"), wE X (.List [] c0)), (tC (.str "told"), wE X (.List [] c1)), (tC (.str "fun"), wE X (.List [(.Constant (.int 1) j0 q0)] c2)), (tC (.str "call"), wE X (.List [(.Constant (.int 0) j1 q1), (.Constant (.int 0) j2 q2)] c3)), (tC (.str "both"), wE X (.List [(.Constant (.int 0) j3 q3), (.Constant (.int 0) j4 q4)] c4)), (tC (.str "which"), wE X (.List [(.Constant (.int 0) j5 q5), (.Constant (.int 1) j6 q6), (.Constant (.int 1) j7 q7)] c5)), (tC (.str "turns"), wE X (.List [(.Constant (.int 0) j8 q8), (.Constant (.int 1) j9 q9), (.Constant (.int 0) j10 q10)] c6))]) (PA := fun dp M' kvs => ∃ p1 p2 p3 p4 p5 p6 p7, (O.H p1 = none ∧ O.H p2 = none ∧ O.H p3 = none ∧ O.H p4 = none ∧ O.H p5 = none ∧ O.H p6 = none ∧ O.H p7 = none) ∧ M' = [(p7, .lst ((intsD [0, 1, 0]).map .d)), (p6, .lst ((intsD [0, 1, 1]).map .d)), (p5, .lst ((intsD [0, 0]).map .d)), (p4, .lst ((intsD [0, 0]).map .d)), (p3, .lst ((intsD [1]).map .d)), (p2, .lst ((intsD []).map .d)), (p1, .lst ((intsD []).map .d)), (dp, .is (.dK []))] ∧ kvs = [(("name" : Str), V.ref p1), (("told" : Str), V.ref p2), (("fun" : Str), V.ref p3), (("call" : Str), V.ref p4), (("both" : Str), V.ref p5), (("which" : Str), V.ref p6), (("turns" : Str), V.ref p7)]) ?_ ?_ ?_ (h15 := Nat.le_of_ble_eq_true rfl)
  · exact pps_cons pe_str pe_w (pps_cons pe_str pe_w (pps_cons pe_str pe_w (pps_cons pe_str pe_w (pps_cons pe_str pe_w (pps_cons pe_str pe_w (pps_cons pe_str pe_w pps_nil))))))
  · intro dp hdp B σ H S Q q
    refine (el_lst ea_nil : El X O _ ρ _ ((intsD []).map .d)) B σ H S _ fun p1 B1 H1 h1 e1 S1 => ?_
    refine (el_lst ea_nil : El X O _ ρ _ ((intsD []).map .d)) B1 σ H1 S1 _ fun p2 B2 H2 h2 e2 S2 => ?_
    refine (el_lst (ea_cons ed_int ea_nil) : El X O _ ρ _ ((intsD [1]).map .d)) B2 σ H2 S2 _ fun p3 B3 H3 h3 e3 S3 => ?_
    refine (el_lst (ea_cons ed_int (ea_cons ed_int ea_nil)) : El X O _ ρ _ ((intsD [0, 0]).map .d)) B3 σ H3 S3 _ fun p4 B4 H4 h4 e4 S4 => ?_
    refine (el_lst (ea_cons ed_int (ea_cons ed_int ea_nil)) : El X O _ ρ _ ((intsD [0, 0]).map .d)) B4 σ H4 S4 _ fun p5 B5 H5 h5 e5 S5 => ?_
    refine (el_lst (ea_cons ed_int (ea_cons ed_int (ea_cons ed_int ea_nil))) : El X O _ ρ _ ((intsD [0, 1, 1]).map .d)) B5 σ H5 S5 _ fun p6 B6 H6 h6 e6 S6 => ?_
    refine (el_lst (ea_cons ed_int (ea_cons ed_int (ea_cons ed_int ea_nil))) : El X O _ ρ _ ((intsD [0, 1, 0]).map .d)) B6 σ H6 S6 _ fun p7 B7 H7 h7 e7 S7 => ?_
    exact q _ _ B7 H7 ⟨p1, p2, p3, p4, p5, p6, p7, ⟨h1, h2, h3, h4, h5, h6, h7⟩, rfl, rfl⟩ ((((((e1.trans e2).trans e3).trans e4).trans e5).trans e6).trans e7) S7
  · rintro dp M' kvs ⟨p1, p2, p3, p4, p5, p6, p7, g, rfl, rfl⟩
    exact ⟨7, rfl, by simp, dp, p1, p2, p3, p4, p5, p6, p7, g, rfl, rfl⟩
end
end K32

set_option maxRecDepth 100000
set_option maxHeartbeats 4000000
namespace K32
open PySem L2
theorem putK_new {k : Key} {v : V} : ∀ {kvs : List (Key × V)}, k ∉ kvs.map (·.1) → putK kvs k v = kvs ++ [(k, v)] := fun {kvs} h => by
  unfold putK
  rw [if_neg (fun q => by
    obtain ⟨x, hx, e⟩ := List.any_eq_true.mp q
    exact h (List.mem_map.mpr ⟨x, hx, of_decide_eq_true e⟩))]
theorem merge_new : ∀ {more kvs : List (Key × V)}, ((kvs ++ more).map (·.1)).Nodup → mergeK kvs more = kvs ++ more
  | [], kvs, _ => (List.append_nil kvs).symm
  | q :: more, kvs, h => by
    show mergeK (putK kvs q.1 q.2) more = _
    have h2 : q.1 ∉ kvs.map (·.1) := fun z => by
      rw [List.map_append, List.map_cons] at h
      exact (List.nodup_append.mp h).2.2 _ z _ List.mem_cons_self rfl
    rw [putK_new h2, merge_new (by rw [List.append_assoc]; exact h), List.append_assoc]
    rfl
theorem keys_nd {kvs : KVs} (h : (kvs.map (·.1)).Nodup) : ((keysK kvs).map (·.1)).Nodup := by
  unfold keysK
  rw [List.map_map]
  induction kvs with
  | nil => exact .nil
  | cons q r ih =>
    rw [List.map_cons, List.nodup_cons] at h
    rw [List.map_cons, List.nodup_cons]
    refine ⟨fun z => ?_, ih h.2⟩
    obtain ⟨y, hy, e⟩ := List.mem_map.mp z
    exact h.1 (List.mem_map.mpr ⟨y, hy, Sum.inr.inj e⟩)
theorem valV_str {x : Str} : ∀ {kvs : KVs}, valV (keysK kvs) (.inr x) = kvs.lookup x
  | [] => rfl
  | (y, v) :: r => by
    show valV ((.inr y, v) :: keysK r) (.inr x) = _
    rw [List.lookup_cons]
    by_cases h : y = x
    · subst h
      rw [valV_pos rfl, beq_self_eq_true]
    · rw [valV_neg (fun q => h (Sum.inr.inj q)), valV_str]
      have : (x == y) = false := by simpa using fun q => h q.symm
      rw [this]
theorem val_disp {kvs : KVs} {x : Str} (h : (kvs.map (·.1)).Nodup) : valV (mergeK [] (keysK kvs)) (.inr x) = kvs.lookup x := by
  have e : mergeK [] (keysK kvs) = [] ++ keysK kvs := merge_new (keys_nd h)
  rw [e, List.nil_append, valV_str]
def oneV (p1 p2 p3 p4 p5 p6 p7 : Addr) : Nd → Option V
  | .name _ => some (.ref p1)
  | .told _ => some (.ref p2)
  | .fn _ => some (.ref p3)
  | .call => some (.ref p4)
  | .both => some (.ref p5)
  | .which => some (.ref p6)
  | .turns _ => some (.ref p7)
  | _ => none
theorem one_get (p1 p2 p3 p4 p5 p6 p7 : Addr) (n : Nd) : valV (oneK p1 p2 p3 p4 p5 p6 p7) (.inr n.word) = oneV p1 p2 p3 p4 p5 p6 p7 n := by
  unfold oneK
  rw [val_disp (by simp only [List.map]; decide +kernel)]
  have no : ∀ {x y : Str} {v : V} {r : KVs} {o : Option V}, (x == y) = false → r.lookup x = o → ((y, v) :: r).lookup x = o := fun h1 h2 => by rw [List.lookup_cons, h1]; exact h2
  have yes : ∀ {x : Str} {v : V} {r : KVs}, ((x, v) :: r).lookup x = some v := fun {x v r} => by rw [List.lookup_cons, beq_self_eq_true]
  cases n <;> simp only [Nd.word, oneV] <;> repeat (first | exact yes | exact rfl | refine no (by decide +kernel) ?_)
theorem one_in (p1 p2 p3 p4 p5 p6 p7 : Addr) (n : Nd) {b : Bool} (h : (oneV p1 p2 p3 p4 p5 p6 p7 n).isSome = b) : (valV (oneK p1 p2 p3 p4 p5 p6 p7) (.inr n.word)).isSome = b := by rw [one_get]; exact h
section
variable {P : Program} {w : World} {K : PySem.W.Frag} {mg : Str → Option Value} {base : Heap}
theorem d__law_binds (T : Tx w K mg) : Def P w K mg base CX0 "_law_binds" 1 ["_law_word"] (spR K R_lbinds) := by
  refine def_R (f__law_binds T) (g__law_binds T) sc__law_binds (fun _ _ _ _ _ _ us hl => match us, hl with | [_], _ => rfl) (fun ds d h => by obtain ⟨n, rfl, rfl⟩ := h; rfl) fun cdv A outer s H E hr ds d h O D hD hq => ?_
  obtain ⟨n, rfl, rfl⟩ := h
  refine go_asgX 1 sc__law_binds.nd ex_one ?_
  rintro M' l ⟨dp, p1, p2, p3, p4, p5, p6, p7, ⟨g1, g2, g3, g4, g5, g6, g7⟩, rfl, rfl⟩
  have hm : (dp, Own.is (.dK (oneK p1 p2 p3 p4 p5 p6 p7))) ∈ oneM dp p1 p2 p3 p4 p5 p6 p7 := by simp [oneM]
  cases n with
  | name i => exact go_retF 6 (ed_ifT (et_inD hr.r64 (ed_v 0) (ed_v 1) hm) (one_in _ _ _ _ _ _ _ _ rfl) (ed_ixD hr.r64 (ed_v 1) (ed_v 0) hm (one_get _ _ _ _ _ _ _ _))) rfl g1 hq
  | told i => exact go_retF 5 (ed_ifT (et_inD hr.r64 (ed_v 0) (ed_v 1) hm) (one_in _ _ _ _ _ _ _ _ rfl) (ed_ixD hr.r64 (ed_v 1) (ed_v 0) hm (one_get _ _ _ _ _ _ _ _))) rfl g2 hq
  | fn A => exact go_retF 4 (ed_ifT (et_inD hr.r64 (ed_v 0) (ed_v 1) hm) (one_in _ _ _ _ _ _ _ _ rfl) (ed_ixD hr.r64 (ed_v 1) (ed_v 0) hm (one_get _ _ _ _ _ _ _ _))) rfl g3 hq
  | call => exact go_retF 3 (ed_ifT (et_inD hr.r64 (ed_v 0) (ed_v 1) hm) (one_in _ _ _ _ _ _ _ _ rfl) (ed_ixD hr.r64 (ed_v 1) (ed_v 0) hm (one_get _ _ _ _ _ _ _ _))) rfl g4 hq
  | both => exact go_retF 2 (ed_ifT (et_inD hr.r64 (ed_v 0) (ed_v 1) hm) (one_in _ _ _ _ _ _ _ _ rfl) (ed_ixD hr.r64 (ed_v 1) (ed_v 0) hm (one_get _ _ _ _ _ _ _ _))) rfl g5 hq
  | which => exact go_retF 1 (ed_ifT (et_inD hr.r64 (ed_v 0) (ed_v 1) hm) (one_in _ _ _ _ _ _ _ _ rfl) (ed_ixD hr.r64 (ed_v 1) (ed_v 0) hm (one_get _ _ _ _ _ _ _ _))) rfl g6 hq
  | turns A => exact go_retF 0 (ed_ifT (et_inD hr.r64 (ed_v 0) (ed_v 1) hm) (one_in _ _ _ _ _ _ _ _ rfl) (ed_ixD hr.r64 (ed_v 1) (ed_v 0) hm (one_get _ _ _ _ _ _ _ _))) rfl g7 hq
  | lt => exact go_ret (ed_ifF (et_inD hr.r64 (ed_v 0) (ed_v 1) hm) (one_in _ _ _ _ _ _ _ _ rfl) (ed_ifT (et_eqS (ed_v 0) ed_str) rfl (ed_lst (ds := intsD [0, 1]) (ea_cons ed_int (ea_cons ed_int ea_nil))))) hq
  | first => exact go_ret (ed_ifF (et_inD hr.r64 (ed_v 0) (ed_v 1) hm) (one_in _ _ _ _ _ _ _ _ rfl) (ed_ifF (et_eqS (ed_v 0) ed_str) rfl (ed_lst (ds := intsD [0]) (ea_cons ed_int ea_nil)))) hq
  | second => exact go_ret (ed_ifF (et_inD hr.r64 (ed_v 0) (ed_v 1) hm) (one_in _ _ _ _ _ _ _ _ rfl) (ed_ifF (et_eqS (ed_v 0) ed_str) rfl (ed_lst (ds := intsD [0]) (ea_cons ed_int ea_nil)))) hq
  | left B => exact go_ret (ed_ifF (et_inD hr.r64 (ed_v 0) (ed_v 1) hm) (one_in _ _ _ _ _ _ _ _ rfl) (ed_ifF (et_eqS (ed_v 0) ed_str) rfl (ed_lst (ds := intsD [0]) (ea_cons ed_int ea_nil)))) hq
  | right A => exact go_ret (ed_ifF (et_inD hr.r64 (ed_v 0) (ed_v 1) hm) (one_in _ _ _ _ _ _ _ _ rfl) (ed_ifF (et_eqS (ed_v 0) ed_str) rfl (ed_lst (ds := intsD [0]) (ea_cons ed_int ea_nil)))) hq
  | next => exact go_ret (ed_ifF (et_inD hr.r64 (ed_v 0) (ed_v 1) hm) (one_in _ _ _ _ _ _ _ _ rfl) (ed_ifF (et_eqS (ed_v 0) ed_str) rfl (ed_lst (ds := intsD [0]) (ea_cons ed_int ea_nil)))) hq
end
end K32

set_option maxRecDepth 100000
set_option maxHeartbeats 4000000
/-! # list(zip(a, b)) of two lists: an own rule -/
namespace KZ
open PySem PySem.Spec PyProof.Rows L2 PySem.W
theorem zip_no_len : typeLookup (.type "zip") "__len__" = pure none := am_miss_of_fast (by decide +kernel)
theorem zip_no_hint : typeLookup (.type "zip") "__length_hint__" = pure none := am_miss_of_fast (by decide +kernel)
/-- the zip at its turn i, while a list at S is filled -/
def ZSt (z TI TO i1 i2 l1 l2 S : Addr) (xs ys : Array Value) (i : Nat) (h : Heap) : Prop :=
  IsPair h TI (.ref i1) (.ref i2) ∧ h.IsListIter i1 l1 i ∧ h.IsListIter i2 l2 i ∧ h.IsList l1 xs ∧ h.IsList l2 ys ∧
    ((IsZip h z TI TO .none ∧ ∃ a b, IsPair h TO a b) ∨ ∃ T f oT, IsZipHeld h z TI TO T f ∧ h.get? T = some oT ∧ T ≠ z ∧ T ≠ i1 ∧ T ≠ i2 ∧ T ≠ S)
section
variable {prog : Program} {w : World} {A : Around} {s : Shared} {z TI TO i1 i2 l1 l2 S : Addr} {xs ys : Array Value} {R : Result → Shared → Prop}
theorem ZSt.frame {i : Nat} {h h' : Heap} (st : ZSt z TI TO i1 i2 l1 l2 S xs ys i h) (hS : S ∉ [z, TI, TO, i1, i2, l1, l2]) (hk : ∀ b o, b ≠ S → h.get? b = some o → h'.get? b = some o) : ZSt z TI TO i1 i2 l1 l2 S xs ys i h' := by
  simp only [List.mem_cons, List.not_mem_nil, or_false, not_or] at hS
  obtain ⟨dz, dTI, dTO, di1, di2, dl1, dl2⟩ := hS
  obtain ⟨hTI, h1, h2, hl1, hl2, hz⟩ := st
  refine ⟨hk _ _ (Ne.symm dTI) hTI, h1.at fun o e => hk _ o (Ne.symm di1) e, h2.at fun o e => hk _ o (Ne.symm di2) e, hl1.at fun o e => hk _ o (Ne.symm dl1) e, hl2.at fun o e => hk _ o (Ne.symm dl2) e, ?_⟩
  rcases hz with ⟨hz, a, b, hTO⟩ | ⟨T, f, oT, hz, hT, r1, r2, r3, r4⟩
  · exact .inl ⟨hk _ _ (Ne.symm dz) hz, a, b, hk _ _ (Ne.symm dTO) hTO⟩
  · exact .inr ⟨T, f, oT, hk _ _ (Ne.symm dz) hz, hk _ _ r4 hT, r1, r2, r3, r4⟩
theorem z_item {i : Nat} {x y : Value} {Q : Option Value → Shared → Prop} {E : Value → Shared → Prop} (D : ZipApart z TI TO i1 i2 l1 l2) (st : ZSt z TI TO i1 i2 l1 l2 S xs ys i s.heap) (ex : xs[i]? = some x) (ey : ys[i]? = some y) (hds : S < s.heap.objs.size)
    (hQ : ∀ h', IsPair h' s.heap.objs.size x y → ZSt z TI TO i1 i2 l1 l2 S xs ys (i + 1) h' → h'.objs.size = s.heap.objs.size + 1 → (∀ b o, b ∉ [z, TO, i1, i2] → s.heap.get? b = some o → h'.get? b = some o) → Q (some (.ref s.heap.objs.size)) { s with heap := h' }) :
    wpAny (model prog w) A (pyNext (.ref z)) Q E s := by
  obtain ⟨hTI, h1, h2, hl1, hl2, hz⟩ := st
  have lt : ∀ {c o}, s.heap.get? c = some o → s.heap.objs.size ≠ c := fun e => Nat.ne_of_gt (Heap.lt_size e)
  have n1 : s.heap.objs.size ≠ i1 := let ⟨_, e, _⟩ := h1; lt e
  have n2 : s.heap.objs.size ≠ i2 := let ⟨_, e, _⟩ := h2; lt e
  rcases hz with ⟨hz, a, b, hTO⟩ | ⟨T, f, oT, hz, hT, r1, r2, r3, r4⟩
  · refine wpAny_pyNext_zip_item D hz hTI hTO h1 h2 hl1 hl2 ex ey fun h' a1 a2 a3 a4 a5 a6 hk => ?_
    exact hQ h' a5 ⟨hk _ _ D.TIz D.TITO D.TIi1 D.TIi2 hTI, a3, a4, hl1.at fun o e => hk _ o D.l1z D.l1TO D.l1i1 D.l1i2 e, hl2.at fun o e => hk _ o D.l2z D.l2TO D.l2i1 D.l2i2 e, .inr ⟨s.heap.objs.size, false, _, a1, a5, lt hz, n1, n2, Nat.ne_of_gt hds⟩⟩ a6
      fun c o hc e => hk c o (fun x => hc (by simp [x])) (fun x => hc (by simp [x])) (fun x => hc (by simp [x])) (fun x => hc (by simp [x])) e
  · refine wpAny_pyNext_zip_item_held D hz hT hTI h1 h2 hl1 hl2 ex ey fun h' a1 a3 a4 a5 a6 hk => ?_
    exact hQ h' a5 ⟨hk _ _ D.TIz D.TIi1 D.TIi2 hTI, a3, a4, hl1.at fun o e => hk _ o D.l1z D.l1i1 D.l1i2 e, hl2.at fun o e => hk _ o D.l2z D.l2i1 D.l2i2 e, .inr ⟨T, true, oT, a1, hk _ _ r1 r2 r3 hT, r1, r2, r3, r4⟩⟩ a6
      fun c o hc e => hk c o (fun x => hc (by simp [x])) (fun x => hc (by simp [x])) (fun x => hc (by simp [x])) e
theorem z_done {i : Nat} {Q : Option Value → Shared → Prop} {E : Value → Shared → Prop} (hA : A.handled = none) (D : ZipApart z TI TO i1 i2 l1 l2) (st : ZSt z TI TO i1 i2 l1 l2 S xs ys i s.heap) (hend : xs[i]? = none ∨ ys[i]? = none)
    (hQ : ∀ h', (∀ b o, b ∉ [z, TO, i1, i2] → s.heap.get? b = some o → h'.get? b = some o) → Q none { s with heap := h' }) : wpAny (model prog w) A (pyNext (.ref z)) Q E s := by
  obtain ⟨hTI, h1, h2, hl1, hl2, hz⟩ := st
  rcases hz with ⟨hz, a, b, hTO⟩ | ⟨T, f, oT, hz, hT, r1, r2, r3, r4⟩
  · exact wpAny_pyNext_zip_end hA D hz hTI hTO h1 h2 hl1 hl2 hend fun h' hk => hQ h' fun c o hc e => hk c o (fun x => hc (by simp [x])) (fun x => hc (by simp [x])) (fun x => hc (by simp [x])) (fun x => hc (by simp [x])) e
  · exact wpAny_pyNext_zip_end_held hA D hz hT hTI h1 h2 hl1 hl2 hend fun h' hk => hQ h' fun c o hc e => hk c o (fun x => hc (by simp [x])) (fun x => hc (by simp [x])) (fun x => hc (by simp [x])) e
/-- the tuples made so far -/
structure ZG (xs ys : Array Value) (lo : Addr) (h : Heap) (as : List Addr) : Prop where
  rise : as.Pairwise (· < ·)
  above : ∀ a ∈ as, lo ≤ a
  pairs : ∀ (j : Nat) (a : Addr), as[j]? = some a → ∃ x y, xs[j]? = some x ∧ ys[j]? = some y ∧ IsPair h a x y
theorem ZG.there {lo : Addr} {h : Heap} {as : List Addr} (g : ZG xs ys lo h as) {a : Addr} (ha : a ∈ as) : a < h.objs.size := by
  obtain ⟨j, hj⟩ := List.mem_iff_getElem?.mp ha
  obtain ⟨_, _, _, _, e⟩ := g.pairs j a hj
  exact Heap.lt_size e
theorem z_loop {h₁ : Heap} (hh : A.handled = none) (D : ZipApart z TI TO i1 i2 l1 l2) (hS : S ∉ [z, TI, TO, i1, i2, l1, l2]) (hlo : ∀ b ∈ [S, z, TO, i1, i2], b < h₁.objs.size) (hsz : xs.size = ys.size) (hn : xs.size ≤ sizeLine) (res : Value)
    (hR : ∀ h' tk acc c as, (∀ b o, b ≠ S → b ∉ [z, TO, i1, i2] → h₁.get? b = some o → h'.get? b = some o) → h'.get? S = some { cls := .type "list", dict := none, data := .seq acc c, slots := #[] } → as.length = xs.size → ZG xs ys h₁.objs.size h' as →
      acc.toList = as.map Value.ref → R (.ok (.ret res)) { s with heap := h', toks := tk }) :
    ∀ (k i : Nat) (h : Heap) (tk c : Nat) (acc : Array Value) (as : List Addr), xs.size - i = k → i ≤ xs.size → ZSt z TI TO i1 i2 l1 l2 S xs ys i h → (∀ b o, b ≠ S → b ∉ [z, TO, i1, i2] → h₁.get? b = some o → h.get? b = some o) →
      h.get? S = some { cls := .type "list", dict := none, data := .seq acc c, slots := #[] } → acc.toList = as.map Value.ref → as.length = i → ZG xs ys h₁.objs.size h as → h₁.objs.size ≤ h.objs.size →
      codeAny (model prog w) A (.builtin "list.extend.loop" ⟨[.ref S, .ref z, res], []⟩) R { s with heap := h, toks := tk } := by
  have hSw : S ∉ [z, TO, i1, i2] := by simp only [List.mem_cons, List.not_mem_nil, or_false, not_or] at hS ⊢; exact ⟨hS.1, hS.2.2.1, hS.2.2.2.1, hS.2.2.2.2.1⟩
  have hab : ∀ {b : Addr}, h₁.objs.size ≤ b → b ≠ S ∧ b ∉ [z, TO, i1, i2] := fun {b} hb => ⟨fun q => absurd (hlo S (by simp)) (by rw [← q]; exact Nat.not_lt.mpr hb), fun q => absurd (hlo b (List.mem_cons_of_mem _ q)) (Nat.not_lt.mpr hb)⟩
  intro k
  induction k with
  | zero =>
    intro i h tk c acc as hk hi hst hkeep hSo hacc hal hG hle
    refine codeAny_builtin PySem.F.entry_extend_loop ?_
    rw [Around.under_plainId PySem.F.plain_extend_loop _]
    show wpAny _ A.in1 (pyNext (.ref z) >>= _) _ _ _
    refine wpAny_bind (z_done (s := { s with heap := h, toks := tk }) (A := A.in1) hh D hst (.inl (Array.getElem?_eq_none (by omega))) fun h' he => ?_)
    refine wpAny_pure (hR h' tk acc c as (fun b o h1 h2 e => he b o h2 (hkeep b o h1 h2 e)) (he S _ hSw hSo) (by omega) ⟨hG.rise, hG.above, fun j a hj => ?_⟩ hacc)
    obtain ⟨x, y, e1, e2, e3⟩ := hG.pairs j a hj
    exact ⟨x, y, e1, e2, he a _ (hab (hG.above a (List.mem_of_getElem? hj))).2 e3⟩
  | succ k ih =>
    intro i h tk c acc as hk hi hst hkeep hSo hacc hal hG hle
    have hlt : i < xs.size := by omega
    have ex : xs[i]? = some xs[i] := Array.getElem?_eq_getElem hlt
    have ey : ys[i]? = some ys[i] := Array.getElem?_eq_getElem (by omega)
    have hasz : acc.size = i := by rw [← Array.length_toList, hacc, List.length_map, hal]
    refine codeAny_builtin PySem.F.entry_extend_loop ?_
    rw [Around.under_plainId PySem.F.plain_extend_loop _]
    show wpAny _ A.in1 (pyNext (.ref z) >>= _) _ _ _
    refine wpAny_bind (z_item (s := { s with heap := h, toks := tk }) D hst ex ey (Heap.lt_size hSo) fun h' ht hst' hz hkp => ?_)
    dsimp only at ht hz hkp ⊢
    have hS' := hkp S _ hSw hSo
    have up : ∀ b o, b ≠ S → h'.get? b = some o → (h'.update S (Obj.mapSeq (·.push (Value.ref h.objs.size)))).get? b = some o := fun b o hb e => (Heap.get?_update_other _ _ (Ne.symm hb)).trans e
    have hSl : S < h.objs.size := Heap.lt_size hSo
    show wpAny _ A.in1 (updateSeq S (·.push (Value.ref h.objs.size)) >>= _) _ _ _
    refine wpAny_bind ?_
    refine wpAny_updateSeq hS' rfl (wpAny_pure ⟨plainId_quiet PySem.F.plain_extend_loop _, ih (i + 1) _ tk _ (acc.push (Value.ref h.objs.size)) (as ++ [h.objs.size]) (by omega) hlt (hst'.frame hS up)
      (fun b o h1 h2 e => up b o h1 (hkp b o h2 (hkeep b o h1 h2 e))) (Heap.get?_update_self _ hS' rfl) (by rw [Array.toList_push, hacc, List.map_append]; rfl) (by rw [List.length_append, hal]; rfl) ⟨?_, ?_, ?_⟩ ?_⟩) (by rw [hasz]; omega) (by show (acc.push (Value.ref h.objs.size)).size ≤ sizeLine + 1; rw [Array.size_push, hasz]; omega)
    · refine List.pairwise_append.mpr ⟨hG.rise, List.pairwise_singleton _ _, fun a ha b hb => ?_⟩
      rw [List.mem_singleton.mp hb]
      exact hG.there ha
    · intro a ha
      rcases List.mem_append.mp ha with ha | ha
      · exact hG.above a ha
      · rw [List.mem_singleton.mp ha]; exact hle
    · intro j b hj
      rcases Nat.lt_trichotomy j as.length with h1 | h1 | h1
      · rw [List.getElem?_append_left h1] at hj
        obtain ⟨x', y', e1, e2, e3⟩ := hG.pairs j b hj
        have hb := hab (hG.above b (List.mem_of_getElem? hj))
        exact ⟨x', y', e1, e2, up b _ hb.1 (hkp b _ hb.2 e3)⟩
      · subst h1
        have hb : h.objs.size = b := by simpa using hj
        subst hb
        exact ⟨_, _, by rw [hal]; exact ex, by rw [hal]; exact ey, up _ _ (Nat.ne_of_gt hSl) ht⟩
      · have hnone : (as ++ [h.objs.size])[j]? = none := List.getElem?_eq_none (by rw [List.length_append, List.length_singleton]; omega)
        rw [hnone] at hj; cases hj
    · have e : (h'.update S (Obj.mapSeq (·.push (Value.ref h.objs.size)))).get? h.objs.size = _ := up _ _ (Nat.ne_of_gt hSl) ht
      exact Nat.le_trans hle (Nat.le_of_lt (Heap.lt_size e))
theorem z_hint {E : Value → Shared → Prop} {r : Addr} (hT : s.TypeIs (.ref r) "zip") {Q : Bool → Shared → Prop} (h : Q true s) : wpAny (model prog w) A (Builtin.List.listLengthHint (.ref r)) Q E s := by
  unfold Builtin.List.listLengthHint
  refine wpAny_bind (wpAny_specialOf hT zip_no_len ?_)
  show wpAny _ A (specialOf (Value.ref r) (Str.ofString "__length_hint__") >>= _) _ _ _
  refine wpAny_bind (wpAny_specialOf hT zip_no_hint ?_)
  exact wpAny_pure h
/-- list(z) -/
theorem z_call {Q : Value → Shared → Prop} {E : Value → Shared → Prop} (hh : A.handled = none) (D : ZipApart z TI TO i1 i2 l1 l2) (hz : IsZip s.heap z TI TO .none) (hTI : IsPair s.heap TI (.ref i1) (.ref i2)) {pa pb : Value} (hTO : IsPair s.heap TO pa pb)
    (h1 : s.heap.IsListIter i1 l1 0) (h2 : s.heap.IsListIter i2 l2 0) (hl1 : s.heap.IsList l1 xs) (hl2 : s.heap.IsList l2 ys) (hsz : xs.size = ys.size) (hn : xs.size ≤ sizeLine)
    (hQ : ∀ h' tk acc c as, (∀ b o, b ∉ [z, TO, i1, i2] → s.heap.get? b = some o → h'.get? b = some o) → h'.get? s.heap.objs.size = some { cls := .type "list", dict := none, data := .seq acc c, slots := #[] } → as.length = xs.size → ZG xs ys (s.heap.objs.size + 1) h' as →
      acc.toList = as.map Value.ref → Q (.ref s.heap.objs.size) { s with heap := h', toks := tk }) :
    wpAny (model prog w) A (call (.type "list") [.ref z]) Q E s := by
  have lz : z < s.heap.objs.size := Heap.lt_size hz
  have lTI : TI < s.heap.objs.size := Heap.lt_size hTI
  have lTO : TO < s.heap.objs.size := Heap.lt_size hTO
  have li1 : i1 < s.heap.objs.size := let ⟨_, e, _⟩ := h1; Heap.lt_size e
  have li2 : i2 < s.heap.objs.size := let ⟨_, e, _⟩ := h2; Heap.lt_size e
  have ll1 : l1 < s.heap.objs.size := let ⟨_, e, _⟩ := hl1; Heap.lt_size e
  have ll2 : l2 < s.heap.objs.size := let ⟨_, e, _⟩ := hl2; Heap.lt_size e
  have hS0 : s.heap.objs.size ∉ [z, TI, TO, i1, i2, l1, l2] := by simp only [List.mem_cons, List.not_mem_nil, or_false, not_or]; exact ⟨Nat.ne_of_gt lz, Nat.ne_of_gt lTI, Nat.ne_of_gt lTO, Nat.ne_of_gt li1, Nat.ne_of_gt li2, Nat.ne_of_gt ll1, Nat.ne_of_gt ll2⟩
  refine callType_codes (Q₁ := fun obj s₁ => obj = .ref s.heap.objs.size ∧ s₁ = { s with heap := s.heap.push { cls := .type "list", data := .seq #[] } }) PySem.F.called_list (PySem.F.typeCall_list_1 _) PySem.F.entry_list_init
    (code_list_new _ ⟨rfl, rfl⟩) fun obj s₁ h₁ => ?_
  obtain ⟨rfl, rfl⟩ := h₁
  have hS : (s.heap.push { cls := .type "list", data := .seq #[] }).get? s.heap.objs.size = some { cls := .type "list", data := .seq #[] } := Heap.get?_push_size _ rfl
  have k1 : ∀ b o, s.heap.get? b = some o → (s.heap.push { cls := .type "list", data := .seq #[] }).get? b = some o := fun b o e => Heap.get?_push_of_some _ e
  have ne : ∀ {b o}, s.heap.get? b = some o → b ≠ s.heap.objs.size := fun e => Nat.ne_of_lt (Heap.lt_size e)
  have up : ∀ (h : Heap) (f : Obj → Obj), (∀ b o, s.heap.get? b = some o → h.get? b = some o) → ∀ b o, s.heap.get? b = some o → (h.update s.heap.objs.size f).get? b = some o := fun h f q b o e =>
    (Heap.get?_update_other _ _ (Ne.symm (ne e))).trans (q b o e)
  refine ⟨⟨_, hS, rfl⟩, PySem.F.args_list_init_2 _ _, ?_⟩
  show wpAny _ A.in1.in1 (do let old ← Builtin.List.listItems (.ref s.heap.objs.size); Builtin.List.listUpdate (.ref s.heap.objs.size) (fun _ => #[]); letGo old.toList.reverse; Builtin.List.listExtendWith (.ref s.heap.objs.size) (.ref z) .none) _ _ _
  refine wpAny_bind ?_
  unfold Builtin.List.listItems
  refine wpAny_bind (wpAny_seqItems hS rfl (wpAny_pure ?_))
  show wpAny _ A.in1.in1 (updateSeq s.heap.objs.size (fun _ => #[]) >>= fun _ => letGo (#[] : Array Value).toList.reverse >>= fun _ => Builtin.List.listExtendWith (.ref s.heap.objs.size) (.ref z) .none) _ _ _
  refine wpAny_bind (wpAny_updateSeq hS rfl ?_)
  have hS2 := Heap.get?_update_self (Obj.mapSeq (fun _ => (#[] : Array Value))) hS rfl
  refine wpAny_bind (wpAny_letGo ?_)
  unfold Builtin.List.listExtendWith
  have k2 := up _ (Obj.mapSeq (fun _ => (#[] : Array Value))) k1
  have zty : ∀ {h : Heap} {t : Tok}, (∀ b o, s.heap.get? b = some o → h.get? b = some o) → Shared.TypeIs { s with heap := h, toks := t } (.ref z) "zip" := fun {h t} q => ⟨_, q _ _ hz, rfl⟩
  refine wpAny_bind (wpAny_typeOf (T := "zip") (zty (t := s.toks) k2) ?_)
  have c1 : Builtin.List.listSameRef (.ref s.heap.objs.size) (.ref z) = false := by
    have : s.heap.objs.size ≠ z := Nat.ne_of_gt lz
    simp [Builtin.List.listSameRef, this]
  have c2 : (Value.type "zip" == Value.type "list") = false := by decide
  have c3 : (Value.type "zip" == Value.type "tuple") = false := by decide
  simp only [c1, c2, c3, Bool.or_false, Bool.false_eq_true, if_false]
  refine wpAny_bind (wpAny_pyIter_zip (s := { s with heap := _ }) (k2 _ _ hz) ?_)
  refine wpAny_bind (wpAny_holding (z_hint (zty (t := s.toks) k2) ?_))
  show wpAny _ A.in1.in1 (rule "list.extend.makes-room" >>= fun _ => Builtin.List.listTouch (.ref s.heap.objs.size) >>= fun _ =>
    again (.builtin "list.extend.loop" ⟨[.ref s.heap.objs.size, .ref z, .none], []⟩)) _ _ _
  refine wpAny_bind (wpAny_rule ?_)
  refine wpAny_bind ?_
  show wpAny _ A.in1.in1 (updateSeq s.heap.objs.size (·.push .none) >>= fun _ => updateSeq s.heap.objs.size (·.pop)) _ _ _
  refine wpAny_bind (wpAny_updateSeq hS2 rfl ?_)
  have hS3 := Heap.get?_update_self (Obj.mapSeq (·.push Value.none)) hS2 rfl
  refine wpAny_updateSeq (hz := by seq_fits) hS3 rfl ?_
  have hS4 := Heap.get?_update_self (Obj.mapSeq (·.pop)) hS3 rfl
  have k4 := up _ (Obj.mapSeq (·.pop)) (up _ (Obj.mapSeq (·.push Value.none)) k2)
  refine wpAny_pure ⟨plainId_quiet PySem.F.plain_extend_loop _, ?_⟩
  have hsize : ((((s.heap.push { cls := .type "list", data := .seq #[] }).update s.heap.objs.size (Obj.mapSeq (fun _ => (#[] : Array Value)))).update s.heap.objs.size (Obj.mapSeq (·.push Value.none))).update s.heap.objs.size (Obj.mapSeq (·.pop))).objs.size = s.heap.objs.size + 1 := by
    rw [Heap.size_update, Heap.size_update, Heap.size_update, Heap.size_push]
  refine z_loop (A := A.in1) (s := s) (xs := xs) (ys := ys) hh D hS0 (fun b hb => ?_) hsz hn .none (fun h' tk acc c as q1 q2 q3 q4 q5 => ⟨rfl, hQ h' tk acc c as (fun b o hb e => q1 b o (ne e) hb (k4 b o e)) q2 q3 (by rw [hsize] at q4; exact q4) q5⟩) xs.size 0 _ s.toks _ #[] [] (Nat.sub_zero _) (Nat.zero_le _) ⟨k4 _ _ hTI, h1.at fun o e => k4 _ o e, h2.at fun o e => k4 _ o e, hl1.at fun o e => k4 _ o e, hl2.at fun o e => k4 _ o e, .inl ⟨k4 _ _ hz, pa, pb, k4 _ _ hTO⟩⟩ (fun b o _ _ e => e) hS4 rfl rfl
    ⟨List.Pairwise.nil, (fun _ ha => nomatch ha), (fun j a hj => by simp at hj)⟩ (Nat.le_refl _)
  rw [hsize]
  simp only [List.mem_cons, List.not_mem_nil, or_false] at hb
  rcases hb with rfl | rfl | rfl | rfl | rfl
  · exact Nat.lt_succ_self _
  · exact Nat.lt_succ_of_lt lz
  · exact Nat.lt_succ_of_lt lTO
  · exact Nat.lt_succ_of_lt li1
  · exact Nat.lt_succ_of_lt li2
end
end KZ

set_option maxRecDepth 100000
set_option maxHeartbeats 4000000
namespace KZ
open PySem PySem.Spec PyProof.Rows L2 PySem.W
def putP : Hp → List Addr → List (V × V) → Hp
  | H, a :: as, p :: ps => putP (upd H a (.tup [p.1, p.2])) as ps
  | H, _, _ => H
theorem putP_off {b : Addr} : ∀ (as : List Addr) (ps : List (V × V)) (H : Hp), b ∉ as → putP H as ps b = H b
  | [], _, _, _ => rfl
  | _ :: _, [], _, _ => rfl
  | a :: as, p :: ps, H, h => by
    show putP (upd H a (.tup [p.1, p.2])) as ps b = H b
    rw [putP_off as ps _ (fun z => h (List.mem_cons_of_mem _ z)), upd_ne (fun z => h (by rw [z]; exact List.mem_cons_self))]
theorem putP_at : ∀ (as : List Addr) (ps : List (V × V)) (H : Hp), as.Nodup → ∀ (j : Nat) (t : Addr) (p : V × V), as[j]? = some t → ps[j]? = some p → putP H as ps t = some (.tup [p.1, p.2])
  | [], _, _, _, _, _, _, h, _ => by simp at h
  | _ :: _, [], _, _, _, _, _, _, h => by simp at h
  | a :: as, q :: ps, H, hn, 0, t, p, h1, h2 => by
    simp at h1 h2
    subst h1 h2
    show putP (upd H a (.tup [q.1, q.2])) as ps a = _
    rw [putP_off as ps _ (List.nodup_cons.mp hn).1, upd_same]
  | a :: as, q :: ps, H, hn, j + 1, t, p, h1, h2 => putP_at as ps _ (List.nodup_cons.mp hn).2 j t p (by simpa using h1) (by simpa using h2)
theorem vals_at {xs : List V} {its : List Value} (h : Vals xs its) {i : Nat} {u : Value} (e : its[i]? = some u) : ∃ x, xs[i]? = some x ∧ RelV x u := by
  have hl := h.length
  have hi : i < xs.length := by rw [hl]; exact (List.getElem?_eq_some_iff.mp e).1
  obtain ⟨u', e', r⟩ := h.get (List.getElem?_eq_getElem hi)
  rw [e] at e'
  cases e'
  exact ⟨_, List.getElem?_eq_getElem hi, r⟩
section
variable {X : Cx}
theorem z_laid {pins : List (Addr × Obj)} {σ : L2.St} {H : Hp} {s : Shared} {h' : Heap} {tk : Nat} {its its2 acc : Array Value} {xs ys : List V} {c : Nat} {S : Addr} {as : List Addr} (I : Inv X pins σ H s) (hSn : s.heap.objs.size ≤ S) (hz : its.size ≤ sizeLine) (rv : Vals xs its.toList) (rv2 : Vals ys its2.toList)
    (hk : ∀ b o, s.heap.get? b = some o → h'.get? b = some o) (hS : h'.get? S = some { cls := .type "list", dict := none, data := .seq acc c, slots := #[] }) (hl : as.length = its.size) (hG : ZG its its2 (S + 1) h' as) (hacc : acc.toList = as.map Value.ref) :
    H S = none ∧ (∀ t ∈ as, H t = none) ∧ S ∉ as ∧ as.Nodup ∧ Inv X pins σ (upd (putP H as (xs.zip ys)) S (.lst (as.map V.ref))) { s with heap := h', toks := tk } := by
  have nd : as.Nodup := List.Pairwise.imp (fun {a b} (h : a < b) => Nat.ne_of_lt h) hG.rise
  have new : ∀ t ∈ as, H t = none := fun t ht => I.hok.fresh (Nat.le_trans hSn (Nat.le_of_lt (hG.above t ht)))
  have newS : H S = none := I.hok.fresh hSn
  have hSa : S ∉ as := fun z => Nat.lt_irrefl _ (hG.above _ z)
  have off : ∀ b, b ∉ as → b ≠ S → upd (putP H as (xs.zip ys)) S (.lst (as.map V.ref)) b = H b := fun b h1 h2 => by rw [upd_ne h2, putP_off as _ _ h1]
  have low : ∀ b o, s.heap.get? b = some o → b ∉ as ∧ b ≠ S := fun b o e => ⟨fun z => absurd (Heap.lt_size e) (Nat.not_lt.mpr (Nat.le_trans hSn (Nat.le_of_lt (hG.above b z)))), fun z => absurd (Heap.lt_size e) (Nat.not_lt.mpr (by rw [z]; exact hSn))⟩
  have kp : ∀ b u, H b = some u → upd (putP H as (xs.zip ys)) S (.lst (as.map V.ref)) b = some u := fun b u e => by
    rw [off b (fun z => by rw [new b z] at e; cases e) (fun z => by rw [z, newS] at e; cases e)]
    exact e
  have eS : upd (putP H as (xs.zip ys)) S (.lst (as.map V.ref)) S = some (.lst (as.map V.ref)) := upd_same
  refine ⟨newS, new, hSa, nd, ?_⟩
  refine I.call' (ch := []) rfl ⟨fun b o q _ _ _ => hk b o q, fun b o q _ _ _ => ⟨o.slots, hk b o q⟩, fun b o q n _ => ?_, fun b o q _ => ⟨o, hk b o q⟩, fun b xs q => kp b _ q, fun b o u q => kp b _ q, fun b ps q => ⟨#[], by rw [kp b _ q]; simp⟩⟩ (fun b u q => ?_) I.bare fun b z => by simp at z
  · obtain ⟨z1, z2⟩ := low b o q
    rw [off b z1 z2]
    exact n
  · by_cases hb2 : b = S
    · rw [hb2] at q ⊢
      rw [eS] at q
      cases q
      refine ⟨by rw [List.length_map, hl]; exact hz, acc.toList, c, by rw [hacc]; exact LiI.vals_refs as, ?_⟩
      rw [Array.toArray_toList]
      exact hS
    · by_cases hb : b ∈ as
      · obtain ⟨j, hj⟩ := List.mem_iff_getElem?.mp hb
        obtain ⟨x, y, f1, f2, f3⟩ := hG.pairs j b hj
        obtain ⟨vx, g1, r1⟩ := vals_at rv (i := j) (u := x) (by simpa using f1)
        obtain ⟨vy, g2, r2⟩ := vals_at rv2 (i := j) (u := y) (by simpa using f2)
        have e := putP_at as (xs.zip ys) H nd j b (vx, vy) hj (by rw [List.getElem?_zip_eq_some]; exact ⟨g1, g2⟩)
        rw [upd_ne hb2, e] at q
        cases q
        exact ⟨by show 2 ≤ sizeLine; decide, [x, y], .cons r1 (.cons r2 .nil), ⟨_, f3, rfl, _, rfl⟩⟩
      · rw [off b hb hb2] at q
        exact (I.hok b u q).stay (fun d v _ y => hk d v y) (fun d y => kp d _ y) fun d xs y => kp d _ y
def tLZ (K : PySem.W.Frag) (ta : TA) : TE := fun σ H Q => ta σ H fun vs H1 => ∃ a b xs ys, vs = [.ref a, .ref b] ∧ SqL K H1 a xs ∧ SqL K H1 b ys ∧ xs.length = ys.length ∧
  ∀ S as, H1 S = none → (∀ t ∈ as, H1 t = none) → S ∉ as → as.Nodup → as.length = xs.length → Q (.ref S) (upd (putP H1 as (xs.zip ys)) S (.lst (as.map V.ref)))
theorem pe_listZip {e e2 : Expr} {ta : TA} {p p2 pos pos2 : Pos} (hc : X.calm = true) (ha : PA X [e, e2] ta) (hg : Gl X "list") (hm : X.mg "list" = none) (hg2 : Gl X "zip") (hm2 : X.mg "zip" = none)
    (hs : starEach [.Call (.Name "zip" p2) [e, e2] [] pos2] X.env = (false, eval (.Call (.Name "zip" p2) [e, e2] [] pos2) X.env) :: starEach [] X.env := by rfl)
    (hs2 : starEach [e, e2] X.env = (false, eval e X.env) :: starEach [e2] X.env := by rfl) (hpl : (backTo pos2 (starEach [e2] X.env)).any (·.1) = false := by rfl) :
    PE X (.Call (.Name "list" p) [.Call (.Name "zip" p2) [e, e2] [] pos2] [] pos) (tLZ X.K ta) := by
  refine ⟨fun pins s σ H Q I hq => ?_⟩
  refine Call_ (ld_blt I hg hm PyProof.Rows.boot_list ?_)
  refine PyProof.Rows.callWith_type1 ?_ hs rfl
  rw [hs]
  show wpAny _ _ (spliced ((false, eval (.Call (.Name "zip" p2) [e, e2] [] pos2) X.env) :: backTo pos (starEach [] X.env))) _ _ s
  refine Calls.spliced_cons ?_
  refine Call_ (ld_blt I hg2 hm2 PyProof.Rows.boot_zip (PyProof.Rows.callWith_type1 (thn (ha.run pos2 pins s σ H _ I hq) fun us s1 ⟨vs, H1, I1, r1, q1⟩ => ?_) hs2 hpl))
  obtain ⟨a, b, xs, ys, ex, hqx, hqy, hlen, q⟩ := q1
  subst ex
  cases r1 with
  | cons r rr =>
    cases rr with
    | cons r' rr =>
      cases rr
      cases r
      cases r'
      obtain ⟨its, rv, p1, hz1⟩ := I1.list hqx
      obtain ⟨its2, rv2, p2, _⟩ := I1.list hqy
      have la : a < s1.heap.objs.size := p1.lt
      have lb : b < s1.heap.objs.size := p2.lt
      refine call_zip_2 p1.isList p2.isList fun h' hz hTI hTO h1 h2 hsz hk => ?_
      refine Calls.spliced_nil ?_
      have hl1 := rv.length
      have hl2 := rv2.length
      refine z_call (xs := its.toArray) (ys := its2.toArray) (s := { s1 with heap := h' }) (I1.ok.hd hc) (PySem.W.ktu_apart s1.heap.objs.size a b la lb) hz hTI hTO h1 h2 (p1.isList.at fun o e => hk _ o e) (p2.isList.at fun o e => hk _ o e) (by simp; omega) (by simp; omega) fun h2' tk acc c as g1 g2 g3 g4 g5 => ?_
      have hsz' : s1.heap.objs.size ≤ h'.objs.size := by omega
      have J := z_laid (X := X) (tk := tk) (xs := xs) (ys := ys) I1 hsz' (by simp; omega) (by simpa using rv) (by simpa using rv2) (fun b o e => g1 b o (fun hb => ?_) (hk b o e)) g2 (by simpa using g3) g4 g5
      · obtain ⟨k1, k2, k3, k4, J⟩ := J
        exact ⟨.ref _, _, J, rfl, q _ as k1 k2 k3 k4 (by simp at g3; omega)⟩
      · have := Heap.lt_size e
        simp only [List.mem_cons, List.not_mem_nil, or_false] at hb
        rcases hb with rfl | rfl | rfl | rfl <;> first | exact absurd this (Nat.not_lt.mpr (Nat.le_add_right _ _)) | exact absurd this (Nat.lt_irrefl _)
end
end KZ
namespace K32
open PySem L2
section
variable {X : Cx} {O : Og} {M : Owns} {ρ : List Lo} {a b : Expr} {pos pos2 p p2 : Pos}
theorem Sit.newPs {K : PySem.W.Frag} {σ : L2.St} : ∀ (as : List Addr) (ps : List (V × V)) {B H : Hp}, Sit K O B M ρ σ H → (∀ t ∈ as, H t = none) → as.Nodup → Sit K O (KZ.putP B as ps) M ρ σ (KZ.putP H as ps) ∧ Same B (KZ.putP B as ps)
  | [], _, _, _, S, _, _ => ⟨S, Same.refl _⟩
  | _ :: _, [], _, _, S, _, _ => ⟨S, Same.refl _⟩
  | t :: as, q :: ps, B, H, S, h, nd => by
    have hn := List.nodup_cons.mp nd
    have ht := h t List.mem_cons_self
    have hB : B t = none := by
      cases e : B t with
      | none => rfl
      | some u => rw [S.bh _ _ e] at ht; cases ht
    obtain ⟨S2, s2⟩ := Sit.newPs as ps (S.newD (o := .tup [q.1, q.2]) ht) (fun u hu => by rw [upd_ne (fun z => hn.1 (by rw [← z]; exact hu))]; exact h u (List.mem_cons_of_mem _ hu)) hn.2
    exact ⟨S2, Same.trans (fun b u e => by rw [upd_ne (ne_of_none e hB)]; exact e) s2⟩
theorem los_pairs {K : PySem.W.Frag} {B : Hp} : ∀ (as : List Addr) (xs ys : List V) (ds es : List PyData), as.length = xs.length → xs.length = ys.length → DaAll K B xs ds → DaAll K B ys es → (∀ (j : Nat) (t : Addr) (p : V × V), as[j]? = some t → (xs.zip ys)[j]? = some p → B t = some (.tup [p.1, p.2])) →
    DaAll K B (as.map V.ref) ((ds.zip es).map fun p => .tuple [p.1, p.2])
  | [], xs, ys, ds, es, h1, h2, hx, hy, _ => by
    cases xs with
    | nil => cases hx; exact .nil
    | cons _ _ => cases h1
  | t :: as, xs, ys, ds, es, h1, h2, hx, hy, hp => by
    cases hx with
    | nil => cases h1
    | cons x1 x2 =>
      cases hy with
      | nil => cases h2
      | cons y1 y2 =>
        refine .cons (.tup (SqT.of (hp 0 t _ rfl rfl)) (.cons x1 (.cons y1 .nil))) ?_
        exact los_pairs as _ _ _ _ (Nat.succ.inj h1) (Nat.succ.inj h2) x2 y2 fun j t p e1 e2 => hp (j + 1) t p (by simpa using e1) (by simpa using e2)
/-- list(zip(a, b)) of two lists of one length -/
theorem el_listZip {ds es : List PyData} (hc : X.calm = true) (hm : X.mg "list" = none) (hm2 : X.mg "zip" = none) (ha : Ed X O M ρ a (.d (.list ds))) (hb : Ed X O M ρ b (.d (.list es))) (hl : ds.length = es.length) (hg : Gl X "list" := by rfl) (hg2 : Gl X "zip" := by rfl)
    (hs : starEach [.Call (.Name "zip" p2) [a, b] [] pos2] X.env = (false, eval (.Call (.Name "zip" p2) [a, b] [] pos2) X.env) :: starEach [] X.env := by rfl)
    (hs2 : starEach [a, b] X.env = (false, eval a X.env) :: starEach [b] X.env := by rfl) (hs3 : starEach [b] X.env = (false, eval b X.env) :: starEach [] X.env := by rfl) (hpl : (backTo pos2 (starEach [b] X.env)).any (·.1) = false := by rfl) :
    El X O M ρ (.Call (.Name "list" p) [.Call (.Name "zip" p2) [a, b] [] pos2] [] pos) (((ds.zip es).map fun p => PyData.tuple [p.1, p.2]).map .d) := fun B σ H S Q q =>
  wE_of (KZ.pe_listZip hc (pa_cons pe_w (pa_cons pe_w pa_nil hs3) hs2) hg hm hg2 hm2 hs hs2 hpl) (ha B σ H S _ fun v B1 H1 e1 S1 r1 => hb B1 σ H1 S1 _ fun u B2 H2 e2 S2 r2 => by
    have r1 : Da X.K B2 v (.list ds) := Da.mono e2 (show Da X.K B1 v (.list ds) from r1)
    have r2 : Da X.K B2 u (.list es) := r2
    cases r1 with
    | lst g1 g2 =>
      cases r2 with
      | lst g3 g4 =>
        rename_i a1 xs b1 ys
        refine ⟨a1, b1, xs, ys, rfl, SqL.of (S2.bh _ _ g1), SqL.of (S2.bh _ _ g3), by rw [g2.length, g4.length, hl], fun St as h1 h2 h3 h4 h5 => ?_⟩
        obtain ⟨S3, s3⟩ := S2.newPs as (xs.zip ys) h2 h4
        have hz : DaAll X.K (KZ.putP B2 as (xs.zip ys)) (as.map V.ref) ((ds.zip es).map fun p => .tuple [p.1, p.2]) :=
          los_pairs as xs ys ds es h5 (by rw [g2.length, g4.length, hl]) (g2.mono s3) (g4.mono s3) fun j t p e1 e2 => KZ.putP_at as _ B2 h4 j t p e1 e2
        refine q St _ _ (S2.fresh h1) ((e1.trans e2).trans s3) (S3.new (w := .lst _) (by rw [KZ.putP_off as _ _ h3]; exact h1) ⟨_, rfl, Los.of_da hz⟩))
end
end K32

/-! # Kinds go along with lifting and putting; a model of kinds in which steps keep what a tree is -/
namespace K32
open PySem
theorem ty_lift {m : Nat} (t : Tr) : ∀ (G1 G2 G3 : List Kd), G2.length = m → ty (G1 ++ (G2 ++ G3)) (Tr.lift m G1.length t) = ty (G1 ++ G3) t := by
  induction t with
  | name i =>
    intro G1 G2 G3 h
    unfold Tr.lift
    split
    · show (G1 ++ (G2 ++ G3))[i + m]? = (G1 ++ G3)[i]?
      rw [List.getElem?_append_right (by omega), List.getElem?_append_right (by omega), List.getElem?_append_right (by omega)]
      congr 1
      omega
    · show (G1 ++ (G2 ++ G3))[i]? = (G1 ++ G3)[i]?
      rw [List.getElem?_append_left (by omega), List.getElem?_append_left (by omega)]
  | told n => intro G1 G2 G3 h; rfl
  | fn A b ih => intro G1 G2 G3 h; have e := ih (A :: G1) G2 G3 h; simp only [List.cons_append, List.length_cons] at e; simp only [Tr.lift, ty, e]
  | call f a ih1 ih2 => intro G1 G2 G3 h; simp only [Tr.lift, ty, ih1 G1 G2 G3 h, ih2 G1 G2 G3 h]
  | both f a ih1 ih2 => intro G1 G2 G3 h; simp only [Tr.lift, ty, ih1 G1 G2 G3 h, ih2 G1 G2 G3 h]
  | first p ih => intro G1 G2 G3 h; simp only [Tr.lift, ty, ih G1 G2 G3 h]
  | second p ih => intro G1 G2 G3 h; simp only [Tr.lift, ty, ih G1 G2 G3 h]
  | left B p ih => intro G1 G2 G3 h; simp only [Tr.lift, ty, ih G1 G2 G3 h]
  | right B p ih => intro G1 G2 G3 h; simp only [Tr.lift, ty, ih G1 G2 G3 h]
  | next p ih => intro G1 G2 G3 h; simp only [Tr.lift, ty, ih G1 G2 G3 h]
  | which s l r ih1 ih2 ih3 =>
    intro G1 G2 G3 h
    have e2 := fun a => ih2 (a :: G1) G2 G3 h
    have e3 := fun a => ih3 (a :: G1) G2 G3 h
    simp only [List.cons_append, List.length_cons] at e2 e3
    simp only [Tr.lift, ty, ih1 G1 G2 G3 h, e2, e3]
  | turns A n u s ih1 ih2 ih3 =>
    intro G1 G2 G3 h
    have e2 := ih2 (A :: G1) G2 G3 h
    simp only [List.cons_append, List.length_cons] at e2
    simp only [Tr.lift, ty, ih1 G1 G2 G3 h, e2, ih3 G1 G2 G3 h]
  | lt a b ih1 ih2 =>
    intro G1 G2 G3 h
    have e2 := fun a => ih2 (a :: G1) G2 G3 h
    simp only [List.cons_append, List.length_cons] at e2
    simp only [Tr.lift, ty, ih1 G1 G2 G3 h, e2]
theorem ty_lift1 {G : List Kd} {A : Kd} (t : Tr) : ty (A :: G) (Tr.lift 1 0 t) = ty G t := ty_lift t [] [A] G rfl
theorem ty_put {o : Tr} {ko : Kd} (t : Tr) : ∀ (G1 G2 : List Kd), ty G2 o = some ko → ty (G1 ++ G2) (Tr.put o G1.length t) = ty (G1 ++ ko :: G2) t := by
  induction t with
  | name i =>
    intro G1 G2 h
    unfold Tr.put
    split
    · rename_i e
      subst e
      show _ = (G1 ++ ko :: G2)[G1.length]?
      rw [List.getElem?_append_right (Nat.le_refl _), Nat.sub_self]
      exact (ty_lift o [] G1 G2 rfl).trans h
    · split
      · show (G1 ++ G2)[i - 1]? = (G1 ++ ko :: G2)[i]?
        rw [List.getElem?_append_right (by omega), List.getElem?_append_right (by omega), show i - G1.length = (i - 1 - G1.length) + 1 by omega]
        rfl
      · show (G1 ++ G2)[i]? = (G1 ++ ko :: G2)[i]?
        rw [List.getElem?_append_left (by omega), List.getElem?_append_left (by omega)]
  | told n => intro G1 G2 h; rfl
  | fn A b ih => intro G1 G2 h; have e := ih (A :: G1) G2 h; simp only [List.cons_append, List.length_cons] at e; simp only [Tr.put, ty, e]
  | call f a ih1 ih2 => intro G1 G2 h; simp only [Tr.put, ty, ih1 G1 G2 h, ih2 G1 G2 h]
  | both f a ih1 ih2 => intro G1 G2 h; simp only [Tr.put, ty, ih1 G1 G2 h, ih2 G1 G2 h]
  | first p ih => intro G1 G2 h; simp only [Tr.put, ty, ih G1 G2 h]
  | second p ih => intro G1 G2 h; simp only [Tr.put, ty, ih G1 G2 h]
  | left B p ih => intro G1 G2 h; simp only [Tr.put, ty, ih G1 G2 h]
  | right B p ih => intro G1 G2 h; simp only [Tr.put, ty, ih G1 G2 h]
  | next p ih => intro G1 G2 h; simp only [Tr.put, ty, ih G1 G2 h]
  | which s l r ih1 ih2 ih3 =>
    intro G1 G2 h
    have e2 := fun a => ih2 (a :: G1) G2 h
    have e3 := fun a => ih3 (a :: G1) G2 h
    simp only [List.cons_append, List.length_cons] at e2 e3
    simp only [Tr.put, ty, ih1 G1 G2 h, e2, e3]
  | turns A n u s ih1 ih2 ih3 =>
    intro G1 G2 h
    have e2 := ih2 (A :: G1) G2 h
    simp only [List.cons_append, List.length_cons] at e2
    simp only [Tr.put, ty, ih1 G1 G2 h, e2, ih3 G1 G2 h]
  | lt a b ih1 ih2 =>
    intro G1 G2 h
    have e2 := fun a => ih2 (a :: G1) G2 h
    simp only [List.cons_append, List.length_cons] at e2
    simp only [Tr.put, ty, ih1 G1 G2 h, e2]
theorem ty_put0 {o t : Tr} {ko : Kd} {G : List Kd} (h : ty G o = some ko) : ty G (Tr.put o 0 t) = ty (ko :: G) t := ty_put t [] G h

/-! ## the model -/
def Den : Kd → Type
  | .let_ _ => Nat → Tr
  | .cnt => Nat
  | .pr a b => Den a × Den b
  | .sm a b => Den a ⊕ Den b
  | .fn a b => Den a → Den b
def dfl : (k : Kd) → Den k
  | .let_ _ => fun _ => .told 0
  | .cnt => (0 : Nat)
  | .pr a b => (dfl a, dfl b)
  | .sm a _ => .inl (dfl a)
  | .fn _ b => fun _ => dfl b
structure Vl where
  k : Kd
  v : Den k
def junk : Vl := ⟨.cnt, (0 : Nat)⟩
def Vl.as (v : Vl) (k : Kd) : Den k := if h : v.k = k then h ▸ v.v else dfl k
theorem as_self (k : Kd) (x : Den k) : Vl.as ⟨k, x⟩ k = x := by simp [Vl.as]
theorem as_eta {v : Vl} {k : Kd} (h : v.k = k) : (⟨k, v.as k⟩ : Vl) = v := by cases v; subst h; rw [as_self]
def appV (f a : Vl) : Vl := match f with
  | ⟨.fn A B, g⟩ => ⟨B, (show Den A → Den B from g) (a.as A)⟩
  | _ => junk
def fstV (p : Vl) : Vl := match p with
  | ⟨.pr a b, v⟩ => ⟨a, (show Den a × Den b from v).1⟩
  | _ => junk
def sndV (p : Vl) : Vl := match p with
  | ⟨.pr a b, v⟩ => ⟨b, (show Den a × Den b from v).2⟩
  | _ => junk
def whichV (s : Vl) (l r : Vl → Vl) : Vl := match s with
  | ⟨.sm a b, v⟩ => match (show Den a ⊕ Den b from v) with
    | .inl x => l ⟨a, x⟩
    | .inr y => r ⟨b, y⟩
  | _ => junk
def lamV (A B : Kd) (f : Vl → Vl) : Vl := ⟨.fn A B, fun (x : Den A) => (f ⟨A, x⟩).as B⟩
def pairV (a b : Vl) : Vl := ⟨.pr a.k b.k, (a.v, b.v)⟩
def inlV (B : Kd) (a : Vl) : Vl := ⟨.sm a.k B, .inl a.v⟩
def inrV (A : Kd) (b : Vl) : Vl := ⟨.sm A b.k, .inr b.v⟩
def natV (n : Nat) : Vl := ⟨.cnt, n⟩
def itr (f : Vl → Vl) (s : Vl) : Nat → Vl
  | 0 => s
  | n + 1 => f (itr f s n)
def num (v : Vl) : Nat := v.as .cnt
theorem num_nat (n : Nat) : num (natV n) = n := as_self .cnt n
def ev : Tr → List Vl → Vl
  | .name i, η => η.getD i junk
  | .told n, _ => natV n
  | .fn A b, η => lamV A (kOf (A :: η.map (·.k)) b) fun v => ev b (v :: η)
  | .call f a, η => appV (ev f η) (ev a η)
  | .both a b, η => pairV (ev a η) (ev b η)
  | .first p, η => fstV (ev p η)
  | .second p, η => sndV (ev p η)
  | .left B a, η => inlV B (ev a η)
  | .right A a, η => inrV A (ev a η)
  | .which s l r, η => whichV (ev s η) (fun v => ev l (v :: η)) (fun v => ev r (v :: η))
  | .next n, η => natV (min (num (ev n η) + 1) 1000000)
  | .turns _ n u s, η => itr (fun v => ev u (v :: η)) (ev s η) (num (ev n η))
  | .lt a b, η => ev b (ev a η :: η)
abbrev ks (η : List Vl) : List Kd := η.map (·.k)
theorem itr_k {f : Vl → Vl} {s : Vl} {A : Kd} (h : ∀ v : Vl, v.k = A → (f v).k = A) (hs : s.k = A) : ∀ n, (itr f s n).k = A
  | 0 => hs
  | n + 1 => h _ (itr_k h hs n)
theorem ev_ty (t : Tr) : ∀ (η : List Vl) (k : Kd), ty (ks η) t = some k → (ev t η).k = k := by
  induction t with
  | name i =>
    intro η k h
    show (η.getD i junk).k = k
    have h : (η.map (·.k))[i]? = some k := h
    rw [List.getElem?_map] at h
    cases e : η[i]? with
    | none => rw [e] at h; cases h
    | some v => rw [e] at h; cases h; rw [List.getD_eq_getElem?_getD, e]; rfl
  | told n => intro η k h; cases h; rfl
  | fn A b ih => intro η k h; obtain ⟨kb, h1, h⟩ := bnd h; obtain ⟨b', e, rfl, ho⟩ := kb_fn h; cases e; show Kd.fn A (kOf (A :: ks η) b) = _; rw [kOf_eq h1]
  | call f a ih1 ih2 =>
    intro η k h
    obtain ⟨kf, h1, h⟩ := bnd h
    obtain ⟨ka, h2, h⟩ := bnd h
    obtain ⟨a', e⟩ := kb_call h
    cases e
    have e1 := ih1 η _ h1
    show (appV (ev f η) (ev a η)).k = k
    generalize ev f η = F at e1
    cases F with
    | mk kF g => cases e1; rfl
  | both a b ih1 ih2 => intro η k h; obtain ⟨ka, h1, h⟩ := bnd h; obtain ⟨kb, h2, h⟩ := bnd h; obtain ⟨_, _, e, rfl, ho⟩ := kb_both h; cases e; show Kd.pr (ev a η).k (ev b η).k = _; rw [ih1 η _ h1, ih2 η _ h2]
  | first p ih =>
    intro η k h
    obtain ⟨kq, h1, h⟩ := bnd h
    obtain ⟨b', e⟩ := kb_first h
    cases e
    have e1 := ih η _ h1
    show (fstV (ev p η)).k = k
    generalize ev p η = F at e1
    cases F with
    | mk kF g => cases e1; rfl
  | second p ih =>
    intro η k h
    obtain ⟨kq, h1, h⟩ := bnd h
    obtain ⟨b', e⟩ := kb_second h
    cases e
    have e1 := ih η _ h1
    show (sndV (ev p η)).k = k
    generalize ev p η = F at e1
    cases F with
    | mk kF g => cases e1; rfl
  | left B a ih => intro η k h; obtain ⟨ka, h1, h⟩ := bnd h; obtain ⟨_, e, rfl, ho⟩ := kb_left h; cases e; show Kd.sm (ev a η).k B = _; rw [ih η _ h1]
  | right A a ih => intro η k h; obtain ⟨ka, h1, h⟩ := bnd h; obtain ⟨_, e, rfl, ho⟩ := kb_right h; cases e; show Kd.sm A (ev a η).k = _; rw [ih η _ h1]
  | which s l r ih1 ih2 ih3 =>
    intro η k h
    obtain ⟨a, b, hs, hl, hr⟩ := tyWhich h
    have e1 := ih1 η _ hs
    show (whichV (ev s η) (fun v => ev l (v :: η)) (fun v => ev r (v :: η))).k = k
    generalize ev s η = F at e1
    cases F with
    | mk kF g =>
      cases e1
      cases (show Den a ⊕ Den b from g) with
      | inl x => exact ih2 (⟨a, x⟩ :: η) k hl
      | inr x => exact ih3 (⟨b, x⟩ :: η) k hr
  | next q ih => intro η k h; obtain ⟨kq, _, h⟩ := bnd h; obtain ⟨_, rfl⟩ := kb_next h; rfl
  | turns A n u s ih1 ih2 ih3 =>
    intro η k h
    obtain ⟨k1, h1, h⟩ := bnd h
    obtain ⟨k2, h2, h⟩ := bnd h
    obtain ⟨k3, h3, h⟩ := bnd h
    obtain ⟨e, rfl⟩ := kb_turns h
    cases e
    exact itr_k (fun v hv => ih2 (v :: η) k (by show ty (v.k :: ks η) u = _; rw [hv]; exact h2)) (ih3 η k h3) _
  | lt a b ih1 ih2 =>
    intro η k h
    obtain ⟨ka, h1, h⟩ := bnd h
    obtain ⟨kb, h2, h⟩ := bnd h
    obtain ⟨_, e⟩ := kb_lt h
    cases e
    exact ih2 (ev a η :: η) k (by show ty ((ev a η).k :: ks η) b = _; rw [ih1 η ka h1]; exact h2)
theorem ev_lift {m : Nat} (t : Tr) : ∀ (η1 η2 η3 : List Vl), η2.length = m → ev (Tr.lift m η1.length t) (η1 ++ (η2 ++ η3)) = ev t (η1 ++ η3) := by
  induction t with
  | name i =>
    intro η1 η2 η3 h
    unfold Tr.lift
    split
    · show (η1 ++ (η2 ++ η3)).getD (i + m) junk = (η1 ++ η3).getD i junk
      rw [List.getD_eq_getElem?_getD, List.getD_eq_getElem?_getD, List.getElem?_append_right (by omega), List.getElem?_append_right (by omega), List.getElem?_append_right (by omega)]
      congr 2
      omega
    · show (η1 ++ (η2 ++ η3)).getD i junk = (η1 ++ η3).getD i junk
      rw [List.getD_eq_getElem?_getD, List.getD_eq_getElem?_getD, List.getElem?_append_left (by omega), List.getElem?_append_left (by omega)]
  | told n => intro η1 η2 η3 h; rfl
  | fn A b ih =>
    intro η1 η2 η3 h
    show lamV A (kOf (A :: (η1 ++ (η2 ++ η3)).map (·.k)) (Tr.lift m (η1.length + 1) b)) (fun v => ev (Tr.lift m (η1.length + 1) b) (v :: (η1 ++ (η2 ++ η3)))) = lamV A (kOf (A :: (η1 ++ η3).map (·.k)) b) (fun v => ev b (v :: (η1 ++ η3)))
    have e1 : kOf (A :: (η1 ++ (η2 ++ η3)).map (·.k)) (Tr.lift m (η1.length + 1) b) = kOf (A :: (η1 ++ η3).map (·.k)) b := by
      have z := ty_lift (m := m) b (A :: ks η1) (ks η2) (ks η3) (by rw [← h]; exact List.length_map _)
      rw [List.length_cons, List.length_map] at z
      unfold kOf
      rw [List.map_append, List.map_append, List.map_append]
      exact congrArg (·.getD .cnt) z
    rw [e1]
    congr 1
    funext v
    exact ih (v :: η1) η2 η3 h
  | call f a ih1 ih2 => intro η1 η2 η3 h; simp only [Tr.lift, ev, ih1 η1 η2 η3 h, ih2 η1 η2 η3 h]
  | both f a ih1 ih2 => intro η1 η2 η3 h; simp only [Tr.lift, ev, ih1 η1 η2 η3 h, ih2 η1 η2 η3 h]
  | first p ih => intro η1 η2 η3 h; simp only [Tr.lift, ev, ih η1 η2 η3 h]
  | second p ih => intro η1 η2 η3 h; simp only [Tr.lift, ev, ih η1 η2 η3 h]
  | left B p ih => intro η1 η2 η3 h; simp only [Tr.lift, ev, ih η1 η2 η3 h]
  | right B p ih => intro η1 η2 η3 h; simp only [Tr.lift, ev, ih η1 η2 η3 h]
  | next p ih => intro η1 η2 η3 h; simp only [Tr.lift, ev, ih η1 η2 η3 h]
  | which s l r ih1 ih2 ih3 =>
    intro η1 η2 η3 h
    have e2 := fun v => ih2 (v :: η1) η2 η3 h
    have e3 := fun v => ih3 (v :: η1) η2 η3 h
    simp only [List.cons_append, List.length_cons] at e2 e3
    simp only [Tr.lift, ev, ih1 η1 η2 η3 h, e2, e3]
  | turns A n u s ih1 ih2 ih3 =>
    intro η1 η2 η3 h
    have e2 := fun v => ih2 (v :: η1) η2 η3 h
    simp only [List.cons_append, List.length_cons] at e2
    simp only [Tr.lift, ev, ih1 η1 η2 η3 h, e2, ih3 η1 η2 η3 h]
  | lt a b ih1 ih2 =>
    intro η1 η2 η3 h
    have e2 := fun v => ih2 (v :: η1) η2 η3 h
    simp only [List.cons_append, List.length_cons] at e2
    simp only [Tr.lift, ev, ih1 η1 η2 η3 h, e2]
theorem ev_lift1 {η : List Vl} {v : Vl} (t : Tr) : ev (Tr.lift 1 0 t) (v :: η) = ev t η := ev_lift t [] [v] η rfl
theorem ev_put {o : Tr} {ko : Kd} (t : Tr) : ∀ (η1 η2 : List Vl), ty (ks η2) o = some ko → ev (Tr.put o η1.length t) (η1 ++ η2) = ev t (η1 ++ ev o η2 :: η2) := by
  induction t with
  | name i =>
    intro η1 η2 h
    unfold Tr.put
    split
    · rename_i e
      subst e
      show _ = (η1 ++ ev o η2 :: η2).getD η1.length junk
      rw [List.getD_eq_getElem?_getD, List.getElem?_append_right (Nat.le_refl _), Nat.sub_self]
      exact ev_lift o [] η1 η2 rfl
    · split
      · show (η1 ++ η2).getD (i - 1) junk = (η1 ++ ev o η2 :: η2).getD i junk
        rw [List.getD_eq_getElem?_getD, List.getD_eq_getElem?_getD, List.getElem?_append_right (by omega), List.getElem?_append_right (by omega), show i - η1.length = (i - 1 - η1.length) + 1 by omega]
        rfl
      · show (η1 ++ η2).getD i junk = (η1 ++ ev o η2 :: η2).getD i junk
        rw [List.getD_eq_getElem?_getD, List.getD_eq_getElem?_getD, List.getElem?_append_left (by omega), List.getElem?_append_left (by omega)]
  | told n => intro η1 η2 h; rfl
  | fn A b ih =>
    intro η1 η2 h
    show lamV A (kOf (A :: (η1 ++ η2).map (·.k)) (Tr.put o (η1.length + 1) b)) (fun v => ev (Tr.put o (η1.length + 1) b) (v :: (η1 ++ η2))) = lamV A (kOf (A :: (η1 ++ ev o η2 :: η2).map (·.k)) b) (fun v => ev b (v :: (η1 ++ ev o η2 :: η2)))
    have e1 : kOf (A :: (η1 ++ η2).map (·.k)) (Tr.put o (η1.length + 1) b) = kOf (A :: (η1 ++ ev o η2 :: η2).map (·.k)) b := by
      have z := ty_put b (A :: ks η1) (ks η2) h
      rw [List.length_cons, List.length_map] at z
      unfold kOf
      rw [List.map_append, List.map_append, List.map_cons, ev_ty o η2 ko h]
      exact congrArg (·.getD .cnt) z
    rw [e1]
    congr 1
    funext v
    exact ih (v :: η1) η2 h
  | call f a ih1 ih2 => intro η1 η2 h; simp only [Tr.put, ev, ih1 η1 η2 h, ih2 η1 η2 h]
  | both f a ih1 ih2 => intro η1 η2 h; simp only [Tr.put, ev, ih1 η1 η2 h, ih2 η1 η2 h]
  | first p ih => intro η1 η2 h; simp only [Tr.put, ev, ih η1 η2 h]
  | second p ih => intro η1 η2 h; simp only [Tr.put, ev, ih η1 η2 h]
  | left B p ih => intro η1 η2 h; simp only [Tr.put, ev, ih η1 η2 h]
  | right B p ih => intro η1 η2 h; simp only [Tr.put, ev, ih η1 η2 h]
  | next p ih => intro η1 η2 h; simp only [Tr.put, ev, ih η1 η2 h]
  | which s l r ih1 ih2 ih3 =>
    intro η1 η2 h
    have e2 := fun v => ih2 (v :: η1) η2 h
    have e3 := fun v => ih3 (v :: η1) η2 h
    simp only [List.cons_append, List.length_cons] at e2 e3
    simp only [Tr.put, ev, ih1 η1 η2 h, e2, e3]
  | turns A n u s ih1 ih2 ih3 =>
    intro η1 η2 h
    have e2 := fun v => ih2 (v :: η1) η2 h
    simp only [List.cons_append, List.length_cons] at e2
    simp only [Tr.put, ev, ih1 η1 η2 h, e2, ih3 η1 η2 h]
  | lt a b ih1 ih2 =>
    intro η1 η2 h
    have e2 := fun v => ih2 (v :: η1) η2 h
    simp only [List.cons_append, List.length_cons] at e2
    simp only [Tr.put, ev, ih1 η1 η2 h, e2]
theorem ev_put0 {o t : Tr} {ko : Kd} {η : List Vl} (h : ty (ks η) o = some ko) : ev (Tr.put o 0 t) η = ev t (ev o η :: η) := ev_put t [] η h
/-- a step by a node's own word keeps the kind and what the tree is -/
theorem made_ty {t t' : Tr} {k : Kd} {G : List Kd} (hm : madeW t = some t') (h : ty G t = some k) : ty G t' = some k := by
  cases t with
  | call f a =>
    cases f <;> try (cases hm; done)
    rename_i A b
    cases hm
    obtain ⟨kf, h1, h⟩ := bnd h
    obtain ⟨ka, h2, h⟩ := bnd h
    obtain ⟨a', e⟩ := kb_call h
    cases e
    obtain ⟨kb, h3, h1⟩ := bnd h1
    obtain ⟨b', e, e2, ho⟩ := kb_fn h1
    cases e; cases e2
    rw [ty_put0 h2]; exact h3
  | first p =>
    cases p <;> try (cases hm; done)
    cases hm
    obtain ⟨kq, h1, h⟩ := bnd h
    obtain ⟨b', e⟩ := kb_first h
    cases e
    obtain ⟨ka, h2, h1⟩ := bnd h1
    obtain ⟨kb, h3, h1⟩ := bnd h1
    obtain ⟨_, _, e, e2, ho⟩ := kb_both h1
    cases e; cases e2; exact h2
  | second p =>
    cases p <;> try (cases hm; done)
    cases hm
    obtain ⟨kq, h1, h⟩ := bnd h
    obtain ⟨b', e⟩ := kb_second h
    cases e
    obtain ⟨ka, h2, h1⟩ := bnd h1
    obtain ⟨kb, h3, h1⟩ := bnd h1
    obtain ⟨_, _, e, e2, ho⟩ := kb_both h1
    cases e; cases e2; exact h3
  | which s l r =>
    obtain ⟨a, b, hs, hl, hr⟩ := tyWhich h
    cases s <;> try (cases hm; done)
    · cases hm
      obtain ⟨ka, h1, hs⟩ := bnd hs
      obtain ⟨_, e, e2, ho⟩ := kb_left hs
      cases e; cases e2
      rw [ty_put0 h1]; exact hl
    · cases hm
      obtain ⟨ka, h1, hs⟩ := bnd hs
      obtain ⟨_, e, e2, ho⟩ := kb_right hs
      cases e; cases e2
      rw [ty_put0 h1]; exact hr
  | next q =>
    cases q <;> try (cases hm; done)
    cases hm
    obtain ⟨kq, _, h⟩ := bnd h; obtain ⟨_, rfl⟩ := kb_next h; rfl
  | turns A n u s =>
    cases n <;> try (cases hm; done)
    rename_i n
    cases hm
    have h0 := h
    obtain ⟨k1, h1, h⟩ := bnd h
    obtain ⟨k2, h2, h⟩ := bnd h
    obtain ⟨k3, h3, h⟩ := bnd h
    obtain ⟨e, rfl⟩ := kb_turns h
    cases e
    cases n with
    | zero => exact h3
    | succ n =>
      exact (ty_put0 (o := .turns k (.told n) u s) (ko := k) h0).trans h2
  | lt a b =>
    cases hm
    obtain ⟨ka, h1, h⟩ := bnd h
    obtain ⟨kb, h2, h⟩ := bnd h
    obtain ⟨_, e⟩ := kb_lt h
    cases e
    rw [ty_put0 h1]; exact h2
  | name i => cases hm
  | told i => cases hm
  | fn A b => cases hm
  | both a b => cases hm
  | left B a => cases hm
  | right B a => cases hm
theorem made_ev {t t' : Tr} {k : Kd} {η : List Vl} (hm : madeW t = some t') (h : ty (ks η) t = some k) : ev t' η = ev t η := by
  cases t with
  | call f a =>
    cases f <;> try (cases hm; done)
    rename_i A b
    cases hm
    obtain ⟨kf, h1, h⟩ := bnd h
    obtain ⟨ka, h2, h⟩ := bnd h
    obtain ⟨a', e⟩ := kb_call h
    cases e
    obtain ⟨kb, h3, h1⟩ := bnd h1
    obtain ⟨b', e, e2, ho⟩ := kb_fn h1
    cases e; cases e2
    rw [ev_put0 h2]
    show _ = appV (lamV A (kOf (A :: ks η) b) fun v => ev b (v :: η)) (ev a η)
    rw [kOf_eq h3]
    show _ = (⟨k, (ev b (⟨A, (ev a η).as A⟩ :: η)).as k⟩ : Vl)
    have ea := ev_ty a η A h2
    rw [as_eta ea]
    exact (as_eta (ev_ty b (ev a η :: η) k (by show ty ((ev a η).k :: ks η) b = _; rw [ea]; exact h3))).symm
  | first p =>
    cases p <;> try (cases hm; done)
    cases hm
    rfl
  | second p =>
    cases p <;> try (cases hm; done)
    cases hm
    rfl
  | which s l r =>
    obtain ⟨a, b, hs, hl, hr⟩ := tyWhich h
    cases s <;> try (cases hm; done)
    · cases hm
      obtain ⟨ka, h1, hs⟩ := bnd hs
      rw [ev_put0 h1]; rfl
    · cases hm
      obtain ⟨ka, h1, hs⟩ := bnd hs
      rw [ev_put0 h1]; rfl
  | next q =>
    cases q <;> try (cases hm; done)
    cases hm
    rename_i n
    show natV _ = natV (min (num (natV n) + 1) 1000000)
    rw [num_nat]
  | turns A n u s =>
    cases n <;> try (cases hm; done)
    rename_i n
    cases hm
    have h0 := h
    obtain ⟨k1, h1, h⟩ := bnd h
    obtain ⟨k2, h2, h⟩ := bnd h
    obtain ⟨k3, h3, h⟩ := bnd h
    obtain ⟨e, rfl⟩ := kb_turns h
    cases e
    cases n with
    | zero =>
      show ev s η = itr (fun v => ev u (v :: η)) (ev s η) (num (natV 0))
      rw [num_nat]; rfl
    | succ n =>
      show ev (Tr.put (.turns k (.told n) u s) 0 u) η = itr (fun v => ev u (v :: η)) (ev s η) (num (natV (n + 1)))
      refine (ev_put0 (o := .turns k (.told n) u s) (ko := k) h0).trans ?_
      show ev u (itr (fun v => ev u (v :: η)) (ev s η) (num (natV n)) :: η) = _
      rw [num_nat, num_nat]; rfl
  | lt a b =>
    cases hm
    obtain ⟨ka, h1, h⟩ := bnd h
    rw [ev_put0 h1]; rfl
  | name i => cases hm
  | told i => cases hm
  | fn A b => cases hm
  | both a b => cases hm
  | left B a => cases hm
  | right B a => cases hm
theorem long_ev {t : Tr} {k : Kd} {η : List Vl} (h : ty (ks η) t = some k) (hk : (∃ A B, k = .fn A B) ∨ ∃ A B, k = .pr A B) : ev (madeLong t k) η = ev t η := by
  rcases hk with ⟨A, B, rfl⟩ | ⟨A, B, rfl⟩
  · have e1 := ev_ty t η _ h
    have e2 : kOf (A :: ks η) (.call (Tr.lift 1 0 t) (.name 0)) = B := kOf_eq (by
      show ((ty (A :: ks η) (Tr.lift 1 0 t)).bind fun f => (some A).bind fun a => kindBy .call [f, a]) = some B
      rw [ty_lift1, h]
      show (if A = A then some B else none) = _
      rw [if_pos rfl])
    show lamV A (kOf (A :: ks η) (.call (Tr.lift 1 0 t) (.name 0))) (fun v => appV (ev (Tr.lift 1 0 t) (v :: η)) v) = _
    rw [e2]
    simp only [ev_lift1]
    generalize ev t η = F at e1
    cases F with
    | mk kF g =>
      cases e1
      show (⟨.fn A B, fun x => Vl.as ⟨B, (show Den A → Den B from g) (Vl.as ⟨A, x⟩ A)⟩ B⟩ : Vl) = _
      simp only [as_self]
  · have e1 := ev_ty t η _ h
    show (⟨.pr (fstV (ev t η)).k (sndV (ev t η)).k, ((fstV (ev t η)).v, (sndV (ev t η)).v)⟩ : Vl) = _
    generalize ev t η = F at e1
    cases F with
    | mk kF g => cases e1; rfl
end K32

/-! # A tree's places: contexts; the steps that are found there; what stands behind a step -/
namespace K32
open PySem
inductive C1 where
  | fn (A : Kd) | callL (a : Tr) | callR (f : Tr) | bothL (b : Tr) | bothR (a : Tr) | first | second | left (B : Kd) | right (A : Kd)
  | whS (l r : Tr) | whL (s r : Tr) | whR (s l : Tr) | next | tuN (A : Kd) (u s : Tr) | tuU (A : Kd) (n s : Tr) | tuS (A : Kd) (n u : Tr) | ltA (b : Tr) | ltB (a : Tr)
namespace C1
def plug : C1 → Tr → Tr
  | fn A, t => .fn A t
  | callL a, t => .call t a
  | callR f, t => .call f t
  | bothL b, t => .both t b
  | bothR a, t => .both a t
  | first, t => .first t
  | second, t => .second t
  | left B, t => .left B t
  | right A, t => .right A t
  | whS l r, t => .which t l r
  | whL s r, t => .which s t r
  | whR s l, t => .which s l t
  | next, t => .next t
  | tuN A u s, t => .turns A t u s
  | tuU A n s, t => .turns A n t s
  | tuS A n u, t => .turns A n u t
  | ltA b, t => .lt t b
  | ltB a, t => .lt a t
def pre : C1 → List Nd
  | fn A => [.fn A]
  | callL _ => [.call]
  | callR f => .call :: f.flat
  | bothL _ => [.both]
  | bothR a => .both :: a.flat
  | first => [.first]
  | second => [.second]
  | left B => [.left B]
  | right A => [.right A]
  | whS _ _ => [.which]
  | whL s _ => .which :: s.flat
  | whR s l => .which :: (s.flat ++ l.flat)
  | next => [.next]
  | tuN A _ _ => [.turns A]
  | tuU A n _ => .turns A :: n.flat
  | tuS A n u => .turns A :: (n.flat ++ u.flat)
  | ltA _ => [.lt]
  | ltB a => .lt :: a.flat
def post : C1 → List Nd
  | callL a => a.flat
  | bothL b => b.flat
  | whS l r => l.flat ++ r.flat
  | whL _ r => r.flat
  | tuN _ u s => u.flat ++ s.flat
  | tuU _ _ s => s.flat
  | ltA b => b.flat
  | _ => []
def env (Γ : List Kd) : C1 → List Kd
  | fn A => A :: Γ
  | whL s _ => (kOf Γ s).one :: Γ
  | whR s _ => (kOf Γ s).two :: Γ
  | tuU A _ _ => A :: Γ
  | ltB a => kOf Γ a :: Γ
  | _ => Γ
def held : C1 → Bool
  | callL _ => true
  | first => true
  | second => true
  | _ => false
theorem flat_plug (c : C1) (s : Tr) : (c.plug s).flat = c.pre ++ (s.flat ++ c.post) := by cases c <;> simp [plug, pre, post, Tr.flat]
theorem size_plug (c : C1) (s : Tr) : (c.plug s).size = c.pre.length + s.size + c.post.length := by
  rw [← Tr.flat_len, flat_plug, List.length_append, List.length_append, Tr.flat_len]; omega
theorem pre_pos (c : C1) : 1 ≤ c.pre.length := by cases c <;> simp [pre]
/-- a tree of a kind: each part has one -/
theorem ty_part {c : C1} {s : Tr} {Γ : List Kd} {k : Kd} (h : ty Γ (c.plug s) = some k) : ∃ k', ty (c.env Γ) s = some k' := by
  cases c with
  | fn A => obtain ⟨kb, h1, _⟩ := bnd h; exact ⟨kb, h1⟩
  | callL a => obtain ⟨kb, h1, _⟩ := bnd h; exact ⟨kb, h1⟩
  | callR f => obtain ⟨_, _, h⟩ := bnd h; obtain ⟨kb, h1, _⟩ := bnd h; exact ⟨kb, h1⟩
  | bothL a => obtain ⟨kb, h1, _⟩ := bnd h; exact ⟨kb, h1⟩
  | bothR f => obtain ⟨_, _, h⟩ := bnd h; obtain ⟨kb, h1, _⟩ := bnd h; exact ⟨kb, h1⟩
  | first => obtain ⟨kb, h1, _⟩ := bnd h; exact ⟨kb, h1⟩
  | second => obtain ⟨kb, h1, _⟩ := bnd h; exact ⟨kb, h1⟩
  | left B => obtain ⟨kb, h1, _⟩ := bnd h; exact ⟨kb, h1⟩
  | right A => obtain ⟨kb, h1, _⟩ := bnd h; exact ⟨kb, h1⟩
  | next => obtain ⟨kb, h1, _⟩ := bnd h; exact ⟨kb, h1⟩
  | whS l r => obtain ⟨a, b, h1, _⟩ := tyWhich h; exact ⟨_, h1⟩
  | whL s' r => obtain ⟨a, b, h1, h2, _⟩ := tyWhich h; refine ⟨k, ?_⟩; show ty ((kOf Γ s').one :: Γ) s = _; rw [kOf_eq h1]; exact h2
  | whR s' r => obtain ⟨a, b, h1, _, h2⟩ := tyWhich h; refine ⟨k, ?_⟩; show ty ((kOf Γ s').two :: Γ) s = _; rw [kOf_eq h1]; exact h2
  | tuN A u s' => obtain ⟨kb, h1, _⟩ := bnd h; exact ⟨kb, h1⟩
  | tuU A u s' => obtain ⟨_, _, h⟩ := bnd h; obtain ⟨kb, h1, _⟩ := bnd h; exact ⟨kb, h1⟩
  | tuS A u s' => obtain ⟨_, _, h⟩ := bnd h; obtain ⟨_, _, h⟩ := bnd h; obtain ⟨kb, h1, _⟩ := bnd h; exact ⟨kb, h1⟩
  | ltA b => obtain ⟨kb, h1, _⟩ := bnd h; exact ⟨kb, h1⟩
  | ltB a => obtain ⟨ka, h1, h⟩ := bnd h; obtain ⟨kb, h2, _⟩ := bnd h; refine ⟨kb, ?_⟩; show ty (kOf Γ a :: Γ) s = _; rw [kOf_eq h1]; exact h2
theorem ty_plug {c : C1} {s s' : Tr} {Γ : List Kd} {k : Kd} (h : ty Γ (c.plug s) = some k) (e : ty (c.env Γ) s' = ty (c.env Γ) s) : ty Γ (c.plug s') = some k := by
  rw [← h]
  cases c <;> simp only [env] at e <;> simp only [plug, ty, e]
  · obtain ⟨a, b, h1, _⟩ := tyWhich h
    rw [kOf_eq h1] at e
    rw [h1]
    simp only [Kd.one] at e
    simp only [e]
  · obtain ⟨a, b, h1, _⟩ := tyWhich h
    rw [kOf_eq h1] at e
    rw [h1]
    simp only [Kd.two] at e
    simp only [e]
  · obtain ⟨a, h1, _⟩ := bnd h
    rw [kOf_eq h1] at e
    simp only [h1, Option.bind, e]
theorem lam_congr {A B : Kd} {f g : Vl → Vl} (h : ∀ v : Vl, v.k = A → f v = g v) : lamV A B f = lamV A B g := by
  unfold lamV
  congr 1
  funext x
  rw [h ⟨A, x⟩ rfl]
theorem itr_congr {f g : Vl → Vl} {s : Vl} {A : Kd} (h : ∀ v : Vl, v.k = A → f v = g v) (hs : s.k = A) (hg : ∀ v : Vl, v.k = A → (g v).k = A) : ∀ n, itr f s n = itr g s n
  | 0 => rfl
  | n + 1 => by
    show f (itr f s n) = g (itr g s n)
    rw [itr_congr h hs hg n, h _ (itr_k hg hs n)]
theorem which_congr {a b : Kd} {s : Vl} {l l' r r' : Vl → Vl} (hs : s.k = .sm a b) (h1 : ∀ v : Vl, v.k = a → l v = l' v) (h2 : ∀ v : Vl, v.k = b → r v = r' v) : whichV s l r = whichV s l' r' := by
  cases s with
  | mk k v =>
    cases hs
    unfold whichV
    dsimp only
    cases (show Den a ⊕ Den b from v) with
    | inl x => exact h1 _ rfl
    | inr x => exact h2 _ rfl
theorem ev_plug {c : C1} {s s' : Tr} {η : List Vl} {k : Kd} (h : ty (ks η) (c.plug s) = some k) (e : ty (c.env (ks η)) s' = ty (c.env (ks η)) s) (q : ∀ η', ks η' = c.env (ks η) → ev s' η' = ev s η') : ev (c.plug s') η = ev (c.plug s) η := by
  cases c with
  | fn A =>
    have e : ty (A :: ks η) s' = ty (A :: ks η) s := e
    show lamV A (kOf (A :: ks η) s') _ = lamV A (kOf (A :: ks η) s) _
    have e2 : kOf (A :: ks η) s' = kOf (A :: ks η) s := congrArg (·.getD .cnt) e
    rw [e2]
    exact lam_congr fun v hv => q (v :: η) (by show v.k :: ks η = A :: ks η; rw [hv])
  | whL s0 r =>
    obtain ⟨a, b, h1, h2, h3⟩ := tyWhich h
    refine which_congr (ev_ty s0 η _ h1) (fun v hv => q (v :: η) ?_) fun v hv => rfl
    show v.k :: ks η = (kOf (ks η) s0).one :: ks η
    rw [kOf_eq h1, hv]; rfl
  | whR s0 l =>
    obtain ⟨a, b, h1, h2, h3⟩ := tyWhich h
    refine which_congr (ev_ty s0 η _ h1) (fun v hv => rfl) fun v hv => q (v :: η) ?_
    show v.k :: ks η = (kOf (ks η) s0).two :: ks η
    rw [kOf_eq h1, hv]; rfl
  | tuU A n s0 =>
    obtain ⟨k1, h1, h⟩ := bnd h
    obtain ⟨k2, h2, h⟩ := bnd h
    obtain ⟨k3, h3, h⟩ := bnd h
    obtain ⟨e0, rfl⟩ := kb_turns h
    cases e0
    refine itr_congr (A := k) (fun v hv => q (v :: η) (by show v.k :: ks η = k :: ks η; rw [hv])) (ev_ty s0 η _ h3) (fun v hv => ev_ty s (v :: η) k ?_) _
    show ty (v.k :: ks η) s = _
    rw [hv]; exact h2
  | ltB a =>
    obtain ⟨ka, h1, h⟩ := bnd h
    exact q (ev a η :: η) (by show (ev a η).k :: ks η = kOf (ks η) a :: ks η; rw [ev_ty a η _ h1, kOf_eq h1])
  | callL a => simp only [plug, ev, q η rfl]
  | callR a => simp only [plug, ev, q η rfl]
  | bothL a => simp only [plug, ev, q η rfl]
  | bothR a => simp only [plug, ev, q η rfl]
  | first => simp only [plug, ev, q η rfl]
  | second => simp only [plug, ev, q η rfl]
  | left B => simp only [plug, ev, q η rfl]
  | right B => simp only [plug, ev, q η rfl]
  | next => simp only [plug, ev, q η rfl]
  | whS l r => simp only [plug, ev, q η rfl]
  | tuN A u s => simp only [plug, ev, q η rfl]
  | tuS A u s => simp only [plug, ev, q η rfl]
  | ltA b => simp only [plug, ev, q η rfl]
end C1
/-! ## steps -/
def isFP : Kd → Bool
  | .fn _ _ => true
  | .pr _ _ => true
  | _ => false
def isFB : Tr → Bool
  | .fn _ _ => true
  | .both _ _ => true
  | _ => false
def ruleW (t : Tr) : List Str := if (madeW t).isSome then [t.node.word] else []
def longs (Γ : List Kd) (h : Bool) (t : Tr) : List Str := if isFP (kOf Γ t) && !h && !isFB t then ["long"] else []
def rulesT (Γ : List Kd) (h : Bool) (t : Tr) : List Str := ruleW t ++ longs Γ h t
def ownAt (p : Nat) (t : Tr) : List (Nat × Str) := (ruleW t).map fun r => (p, r)
def longAt (p : Nat) (Γ : List Kd) (h : Bool) (t : Tr) : List (Nat × Str) := (longs Γ h t).map fun r => (p, r)
/-- the steps of a tree that stands at p, in the order in which the law finds them -/
def looks : List Kd → Nat → Bool → Tr → List (Nat × Str)
  | Γ, p, h, .name i => ownAt p (.name i) ++ longAt p Γ h (.name i)
  | Γ, p, h, .told i => ownAt p (.told i) ++ longAt p Γ h (.told i)
  | Γ, p, h, .fn A b => ownAt p (.fn A b) ++ looks (A :: Γ) (p + 1) false b ++ longAt p Γ h (.fn A b)
  | Γ, p, h, .call f a => ownAt p (.call f a) ++ (looks Γ (p + 1) true f ++ looks Γ (p + 1 + f.size) false a) ++ longAt p Γ h (.call f a)
  | Γ, p, h, .both f a => ownAt p (.both f a) ++ (looks Γ (p + 1) false f ++ looks Γ (p + 1 + f.size) false a) ++ longAt p Γ h (.both f a)
  | Γ, p, h, .first q => ownAt p (.first q) ++ looks Γ (p + 1) true q ++ longAt p Γ h (.first q)
  | Γ, p, h, .second q => ownAt p (.second q) ++ looks Γ (p + 1) true q ++ longAt p Γ h (.second q)
  | Γ, p, h, .left B q => ownAt p (.left B q) ++ looks Γ (p + 1) false q ++ longAt p Γ h (.left B q)
  | Γ, p, h, .right B q => ownAt p (.right B q) ++ looks Γ (p + 1) false q ++ longAt p Γ h (.right B q)
  | Γ, p, h, .which s l r => ownAt p (.which s l r) ++ (looks Γ (p + 1) false s ++ (looks ((kOf Γ s).one :: Γ) (p + 1 + s.size) false l ++ looks ((kOf Γ s).two :: Γ) (p + 1 + s.size + l.size) false r)) ++ longAt p Γ h (.which s l r)
  | Γ, p, h, .next q => ownAt p (.next q) ++ looks Γ (p + 1) false q ++ longAt p Γ h (.next q)
  | Γ, p, h, .turns A n u s => ownAt p (.turns A n u s) ++ (looks Γ (p + 1) false n ++ (looks (A :: Γ) (p + 1 + n.size) false u ++ looks Γ (p + 1 + n.size + u.size) false s)) ++ longAt p Γ h (.turns A n u s)
  | Γ, p, h, .lt a b => ownAt p (.lt a b) ++ (looks Γ (p + 1) false a ++ looks (kOf Γ a :: Γ) (p + 1 + a.size) false b) ++ longAt p Γ h (.lt a b)
def plugs : List C1 → Tr → Tr
  | [], s => s
  | c :: C, s => c.plug (plugs C s)
def offs : List C1 → Nat
  | [] => 0
  | c :: C => c.pre.length + offs C
def envs (Γ : List Kd) : List C1 → List Kd
  | [] => Γ
  | c :: C => envs (c.env Γ) C
def helds (h : Bool) : List C1 → Bool
  | [] => h
  | c :: C => helds c.held C
theorem mem_own {p q : Nat} {r : Str} {Γ : List Kd} {h : Bool} {t : Tr} {m : List (Nat × Str)} : (q, r) ∈ ownAt p t ++ m ++ longAt p Γ h t ↔ (q = p ∧ r ∈ rulesT Γ h t) ∨ (q, r) ∈ m := by
  unfold ownAt longAt rulesT
  simp only [List.mem_append, List.mem_map, Prod.mk.injEq]
  constructor
  · rintro ((⟨x, hx, rfl, rfl⟩ | hm) | ⟨x, hx, rfl, rfl⟩)
    · exact .inl ⟨rfl, .inl hx⟩
    · exact .inr hm
    · exact .inl ⟨rfl, .inr hx⟩
  · rintro (⟨rfl, hx | hx⟩ | hm)
    · exact .inl (.inl ⟨r, hx, rfl, rfl⟩)
    · exact .inr ⟨r, hx, rfl, rfl⟩
    · exact .inl (.inr hm)
theorem mem_own0 {p q : Nat} {r : Str} {Γ : List Kd} {h : Bool} {t : Tr} : (q, r) ∈ ownAt p t ++ longAt p Γ h t ↔ (q = p ∧ r ∈ rulesT Γ h t) := by
  have := mem_own (p := p) (q := q) (r := r) (Γ := Γ) (h := h) (t := t) (m := [])
  rw [List.append_nil] at this
  rw [this]; simp
/-- where a found step stands -/
theorem looks_ctx (t : Tr) : ∀ Γ p h q r, (q, r) ∈ looks Γ p h t → ∃ C s, t = plugs C s ∧ q = p + offs C ∧ r ∈ rulesT (envs Γ C) (helds h C) s := by
  have here : ∀ {t : Tr} {Γ p h q r}, q = p ∧ r ∈ rulesT Γ h t → ∃ C s, t = plugs C s ∧ q = p + offs C ∧ r ∈ rulesT (envs Γ C) (helds h C) s := fun {t Γ p h q r} ⟨e, g⟩ => ⟨[], t, rfl, by rw [e]; rfl, g⟩
  have kid : ∀ {c : C1} {t : Tr} {Γ p h q r m}, m = p + c.pre.length → (∃ C s, t = plugs C s ∧ q = m + offs C ∧ r ∈ rulesT (envs (c.env Γ) C) (helds c.held C) s) → ∃ C s, c.plug t = plugs C s ∧ q = p + offs C ∧ r ∈ rulesT (envs Γ C) (helds h C) s := fun {c t Γ p h q r m} hm ⟨C, s, e1, e2, e3⟩ => ⟨c :: C, s, by rw [e1]; rfl, by rw [e2, hm]; simp only [offs]; omega, e3⟩
  induction t with
  | name i => intro Γ p h q r hm; exact here (mem_own0.mp hm)
  | told i => intro Γ p h q r hm; exact here (mem_own0.mp hm)
  | fn A b ih => intro Γ p h q r hm; rcases mem_own.mp hm with g | g; exact here g; exact kid (c := .fn A) rfl (ih _ _ _ _ _ g)
  | first b ih => intro Γ p h q r hm; rcases mem_own.mp hm with g | g; exact here g; exact kid (c := .first) rfl (ih _ _ _ _ _ g)
  | second b ih => intro Γ p h q r hm; rcases mem_own.mp hm with g | g; exact here g; exact kid (c := .second) rfl (ih _ _ _ _ _ g)
  | left B b ih => intro Γ p h q r hm; rcases mem_own.mp hm with g | g; exact here g; exact kid (c := .left B) rfl (ih _ _ _ _ _ g)
  | right B b ih => intro Γ p h q r hm; rcases mem_own.mp hm with g | g; exact here g; exact kid (c := .right B) rfl (ih _ _ _ _ _ g)
  | next b ih => intro Γ p h q r hm; rcases mem_own.mp hm with g | g; exact here g; exact kid (c := .next) rfl (ih _ _ _ _ _ g)
  | call f a ih1 ih2 =>
    intro Γ p h q r hm
    rcases mem_own.mp hm with g | g
    · exact here g
    rcases List.mem_append.mp g with g | g
    · exact kid (c := .callL a) rfl (ih1 _ _ _ _ _ g)
    · exact kid (c := .callR f) (by simp [C1.pre, Tr.flat_len]; omega) (ih2 _ _ _ _ _ g)
  | both f a ih1 ih2 =>
    intro Γ p h q r hm
    rcases mem_own.mp hm with g | g
    · exact here g
    rcases List.mem_append.mp g with g | g
    · exact kid (c := .bothL a) rfl (ih1 _ _ _ _ _ g)
    · exact kid (c := .bothR f) (by simp [C1.pre, Tr.flat_len]; omega) (ih2 _ _ _ _ _ g)
  | lt f a ih1 ih2 =>
    intro Γ p h q r hm
    rcases mem_own.mp hm with g | g
    · exact here g
    rcases List.mem_append.mp g with g | g
    · exact kid (c := .ltA a) rfl (ih1 _ _ _ _ _ g)
    · exact kid (c := .ltB f) (by simp [C1.pre, Tr.flat_len]; omega) (ih2 _ _ _ _ _ g)
  | which s u v ih1 ih2 ih3 =>
    intro Γ p h q r hm
    rcases mem_own.mp hm with g | g
    · exact here g
    rcases List.mem_append.mp g with g | g
    · exact kid (c := .whS u v) rfl (ih1 _ _ _ _ _ g)
    rcases List.mem_append.mp g with g | g
    · exact kid (c := .whL s v) (by simp [C1.pre, Tr.flat_len]; omega) (ih2 _ _ _ _ _ g)
    · exact kid (c := .whR s u) (by simp [C1.pre, Tr.flat_len]; omega) (ih3 _ _ _ _ _ g)
  | turns A s u v ih1 ih2 ih3 =>
    intro Γ p h q r hm
    rcases mem_own.mp hm with g | g
    · exact here g
    rcases List.mem_append.mp g with g | g
    · exact kid (c := .tuN A u v) rfl (ih1 _ _ _ _ _ g)
    rcases List.mem_append.mp g with g | g
    · exact kid (c := .tuU A s v) (by simp [C1.pre, Tr.flat_len]; omega) (ih2 _ _ _ _ _ g)
    · exact kid (c := .tuS A s u) (by simp [C1.pre, Tr.flat_len]; omega) (ih3 _ _ _ _ _ g)
theorem looks_here {t : Tr} {Γ : List Kd} {p : Nat} {h : Bool} {r : Str} (g : r ∈ rulesT Γ h t) : (p, r) ∈ looks Γ p h t := by
  cases t <;> simp only [looks] <;> first | exact mem_own0.mpr ⟨rfl, g⟩ | exact mem_own.mpr (.inl ⟨rfl, g⟩)
theorem looks_kid {c : C1} {t : Tr} {Γ : List Kd} {p q : Nat} {h : Bool} {r : Str} (g : (q, r) ∈ looks (c.env Γ) (p + c.pre.length) c.held t) : (q, r) ∈ looks Γ p h (c.plug t) := by
  cases c <;> simp only [C1.pre, C1.env, C1.held, List.length_cons, List.length_append, List.length_nil, Tr.flat_len, Nat.zero_add] at g <;> refine mem_own.mpr (.inr ?_) <;> (try simp only [List.mem_append]) <;> (try rw [show ∀ a b : Nat, p + (a + b + 1) = p + 1 + a + b from fun a b => by omega] at g) <;> (try rw [show ∀ a : Nat, p + (a + 1) = p + 1 + a from fun a => by omega] at g) <;> first | exact g | exact .inl g | exact .inr g | exact .inr (.inl g) | exact .inr (.inr g)
theorem looks_of_ctx : ∀ (C : List C1) {s : Tr} {Γ : List Kd} {p : Nat} {h : Bool} {r : Str}, r ∈ rulesT (envs Γ C) (helds h C) s → (p + offs C, r) ∈ looks Γ p h (plugs C s)
  | [], _, _, _, _, _, g => looks_here g
  | c :: C, s, Γ, p, h, r, g => by
    have z := looks_of_ctx C (Γ := c.env Γ) (p := p + c.pre.length) (h := c.held) g
    rw [Nat.add_assoc] at z
    exact looks_kid z
/-- each place has a context -/
theorem ctx_at (t : Tr) : ∀ q, q < t.size → ∃ C s, t = plugs C s ∧ q = offs C := by
  have kid : ∀ {c : C1} {t : Tr} {q m}, q = m + c.pre.length → (∃ C s, t = plugs C s ∧ m = offs C) → ∃ C s, c.plug t = plugs C s ∧ q = offs C := fun {c t q m} hq ⟨C, s, e1, e2⟩ => ⟨c :: C, s, by rw [e1]; rfl, by simp only [offs]; omega⟩
  have kid' : ∀ {c : C1} {t : Tr} {q : Nat}, (∀ q, q < t.size → ∃ C s, t = plugs C s ∧ q = offs C) → c.pre.length ≤ q → q < c.pre.length + t.size → ∃ C s, c.plug t = plugs C s ∧ q = offs C := fun {c t q} ih h1 h2 => kid (c := c) (m := q - c.pre.length) (by omega) (ih _ (by omega))
  induction t with
  | name i =>
    intro q hq
    rcases Nat.eq_zero_or_pos q with h0 | h0
    · exact ⟨[], _, rfl, h0⟩
    simp only [Tr.size] at hq
    omega
  | told i =>
    intro q hq
    rcases Nat.eq_zero_or_pos q with h0 | h0
    · exact ⟨[], _, rfl, h0⟩
    simp only [Tr.size] at hq
    omega
  | fn A b ih =>
    intro q hq
    rcases Nat.eq_zero_or_pos q with h0 | h0
    · exact ⟨[], _, rfl, h0⟩
    simp only [Tr.size] at hq
    exact kid' (c := .fn A) ih (by simp [C1.pre, Tr.flat_len]; omega) (by simp [C1.pre, Tr.flat_len]; omega)
  | first b ih =>
    intro q hq
    rcases Nat.eq_zero_or_pos q with h0 | h0
    · exact ⟨[], _, rfl, h0⟩
    simp only [Tr.size] at hq
    exact kid' (c := .first) ih (by simp [C1.pre, Tr.flat_len]; omega) (by simp [C1.pre, Tr.flat_len]; omega)
  | second b ih =>
    intro q hq
    rcases Nat.eq_zero_or_pos q with h0 | h0
    · exact ⟨[], _, rfl, h0⟩
    simp only [Tr.size] at hq
    exact kid' (c := .second) ih (by simp [C1.pre, Tr.flat_len]; omega) (by simp [C1.pre, Tr.flat_len]; omega)
  | left A b ih =>
    intro q hq
    rcases Nat.eq_zero_or_pos q with h0 | h0
    · exact ⟨[], _, rfl, h0⟩
    simp only [Tr.size] at hq
    exact kid' (c := .left A) ih (by simp [C1.pre, Tr.flat_len]; omega) (by simp [C1.pre, Tr.flat_len]; omega)
  | right A b ih =>
    intro q hq
    rcases Nat.eq_zero_or_pos q with h0 | h0
    · exact ⟨[], _, rfl, h0⟩
    simp only [Tr.size] at hq
    exact kid' (c := .right A) ih (by simp [C1.pre, Tr.flat_len]; omega) (by simp [C1.pre, Tr.flat_len]; omega)
  | next b ih =>
    intro q hq
    rcases Nat.eq_zero_or_pos q with h0 | h0
    · exact ⟨[], _, rfl, h0⟩
    simp only [Tr.size] at hq
    exact kid' (c := .next) ih (by simp [C1.pre, Tr.flat_len]; omega) (by simp [C1.pre, Tr.flat_len]; omega)
  | call f a ih1 ih2 =>
    intro q hq
    rcases Nat.eq_zero_or_pos q with h0 | h0
    · exact ⟨[], _, rfl, h0⟩
    simp only [Tr.size] at hq
    by_cases g : q < 1 + f.size
    · exact kid' (c := .callL a) ih1 (by simp [C1.pre, Tr.flat_len]; omega) (by simp [C1.pre, Tr.flat_len]; omega)
    · exact kid' (c := .callR f) ih2 (by simp [C1.pre, Tr.flat_len]; omega) (by simp [C1.pre, Tr.flat_len]; omega)
  | both f a ih1 ih2 =>
    intro q hq
    rcases Nat.eq_zero_or_pos q with h0 | h0
    · exact ⟨[], _, rfl, h0⟩
    simp only [Tr.size] at hq
    by_cases g : q < 1 + f.size
    · exact kid' (c := .bothL a) ih1 (by simp [C1.pre, Tr.flat_len]; omega) (by simp [C1.pre, Tr.flat_len]; omega)
    · exact kid' (c := .bothR f) ih2 (by simp [C1.pre, Tr.flat_len]; omega) (by simp [C1.pre, Tr.flat_len]; omega)
  | lt f a ih1 ih2 =>
    intro q hq
    rcases Nat.eq_zero_or_pos q with h0 | h0
    · exact ⟨[], _, rfl, h0⟩
    simp only [Tr.size] at hq
    by_cases g : q < 1 + f.size
    · exact kid' (c := .ltA a) ih1 (by simp [C1.pre, Tr.flat_len]; omega) (by simp [C1.pre, Tr.flat_len]; omega)
    · exact kid' (c := .ltB f) ih2 (by simp [C1.pre, Tr.flat_len]; omega) (by simp [C1.pre, Tr.flat_len]; omega)
  | which s u v ih1 ih2 ih3 =>
    intro q hq
    rcases Nat.eq_zero_or_pos q with h0 | h0
    · exact ⟨[], _, rfl, h0⟩
    simp only [Tr.size] at hq
    by_cases g : q < 1 + s.size
    · exact kid' (c := .whS u v) ih1 (by simp [C1.pre, Tr.flat_len]; omega) (by simp [C1.pre, Tr.flat_len]; omega)
    by_cases g : q < 1 + s.size + u.size
    · exact kid' (c := .whL s v) ih2 (by simp [C1.pre, Tr.flat_len]; omega) (by simp [C1.pre, Tr.flat_len]; omega)
    · exact kid' (c := .whR s u) ih3 (by simp [C1.pre, Tr.flat_len]; omega) (by simp [C1.pre, Tr.flat_len]; omega)
  | turns A s u v ih1 ih2 ih3 =>
    intro q hq
    rcases Nat.eq_zero_or_pos q with h0 | h0
    · exact ⟨[], _, rfl, h0⟩
    simp only [Tr.size] at hq
    by_cases g : q < 1 + s.size
    · exact kid' (c := .tuN A u v) ih1 (by simp [C1.pre, Tr.flat_len]; omega) (by simp [C1.pre, Tr.flat_len]; omega)
    by_cases g : q < 1 + s.size + u.size
    · exact kid' (c := .tuU A s v) ih2 (by simp [C1.pre, Tr.flat_len]; omega) (by simp [C1.pre, Tr.flat_len]; omega)
    · exact kid' (c := .tuS A s u) ih3 (by simp [C1.pre, Tr.flat_len]; omega) (by simp [C1.pre, Tr.flat_len]; omega)
/-! ## rows of contexts -/
theorem flat_plugs : ∀ (C : List C1) (s : Tr), ∃ rest, (∀ s', (plugs C s').flat = (plugs C s).flat.take (offs C) ++ (s'.flat ++ rest)) ∧ offs C + s.size + rest.length = (plugs C s).size
  | [], s => ⟨[], fun s' => by simp [plugs, offs], by simp [plugs, offs]⟩
  | c :: C, s => by
    obtain ⟨rest, h1, h2⟩ := flat_plugs C s
    refine ⟨rest ++ c.post, fun s' => ?_, ?_⟩
    · show (c.plug (plugs C s')).flat = (c.plug (plugs C s)).flat.take (c.pre.length + offs C) ++ _
      rw [C1.flat_plug, C1.flat_plug, h1 s', List.take_length_add_append, List.take_append_of_le_length (by rw [Tr.flat_len]; omega)]
      simp only [List.append_assoc]
    · show c.pre.length + offs C + s.size + _ = (c.plug (plugs C s)).size
      rw [C1.size_plug, List.length_append]
      omega
theorem ty_parts : ∀ (C : List C1) {s : Tr} {Γ : List Kd} {k : Kd}, ty Γ (plugs C s) = some k → ∃ k', ty (envs Γ C) s = some k'
  | [], s, Γ, k, h => ⟨k, h⟩
  | c :: C, s, Γ, k, h => by obtain ⟨k', h1⟩ := C1.ty_part h; exact ty_parts C h1
theorem ty_plugs : ∀ (C : List C1) {s s' : Tr} {Γ : List Kd} {k : Kd}, ty Γ (plugs C s) = some k → ty (envs Γ C) s' = ty (envs Γ C) s → ty Γ (plugs C s') = some k
  | [], s, s', Γ, k, h, e => by
    have e : ty Γ s' = ty Γ s := e
    show ty Γ s' = _
    rw [e]; exact h
  | c :: C, s, s', Γ, k, h, e => by
    obtain ⟨k', h1⟩ := C1.ty_part h
    exact C1.ty_plug h ((ty_plugs C h1 e).trans h1.symm)
theorem ev_plugs : ∀ (C : List C1) {s s' : Tr} {η : List Vl} {k : Kd}, ty (ks η) (plugs C s) = some k → ty (envs (ks η) C) s' = ty (envs (ks η) C) s → (∀ η', ks η' = envs (ks η) C → ev s' η' = ev s η') → ev (plugs C s') η = ev (plugs C s) η
  | [], s, s', η, k, h, e, q => q η rfl
  | c :: C, s, s', η, k, h, e, q => by
    obtain ⟨k', h1⟩ := C1.ty_part h
    refine C1.ev_plug h ((ty_plugs C h1 e).trans h1.symm) fun η' hη => ?_
    exact ev_plugs C (by rw [hη]; exact h1) (by rw [hη]; exact e) (fun η2 h2 => q η2 (by rw [h2, hη]; rfl))
/-! ## the step itself -/
def mkS (r : Str) (t : Tr) (k : Kd) : Tr := if r = "long" then madeLong t k else (madeW t).getD t
theorem word_ne_long (n : Nd) : n.word ≠ "long" := by cases n <;> simp only [Nd.word] <;> decide
theorem rules_cases {Γ : List Kd} {h : Bool} {t : Tr} {r : Str} (g : r ∈ rulesT Γ h t) : (r ≠ "long" ∧ r = t.node.word ∧ ∃ t', madeW t = some t' ∧ mkS r t (kOf Γ t) = t') ∨ (r = "long" ∧ isFP (kOf Γ t) = true ∧ h = false ∧ isFB t = false ∧ mkS r t (kOf Γ t) = madeLong t (kOf Γ t)) := by
  unfold rulesT ruleW longs at g
  rcases List.mem_append.mp g with g | g
  · left
    split at g
    · rename_i hs
      have e := List.mem_singleton.mp g
      obtain ⟨t', ht⟩ := Option.isSome_iff_exists.mp hs
      refine ⟨by rw [e]; exact word_ne_long _, e, t', ht, ?_⟩
      unfold mkS
      rw [if_neg (by rw [e]; exact word_ne_long _), ht]; rfl
    · cases g
  · right
    split at g
    · rename_i hs
      simp only [Bool.and_eq_true, Bool.not_eq_true'] at hs
      have e := List.mem_singleton.mp g
      exact ⟨e, hs.1.1, hs.1.2, hs.2, by unfold mkS; rw [if_pos e]⟩
    · cases g
theorem long_ty {t : Tr} {k : Kd} {Γ : List Kd} (h : ty Γ t = some k) (hk : isFP k = true) (ho : k.ok = true) : ty Γ (madeLong t k) = some k := by
  cases k with
  | fn A B =>
    show ((ty (A :: Γ) (.call (Tr.lift 1 0 t) (.name 0))).bind fun b => kindBy (.fn A) [b]) = _
    have e : ty (A :: Γ) (.call (Tr.lift 1 0 t) (.name 0)) = some B := by
      show ((ty (A :: Γ) (Tr.lift 1 0 t)).bind fun f => (some A).bind fun a => kindBy .call [f, a]) = some B
      rw [ty_lift1, h]
      show (if A = A then some B else none) = _
      rw [if_pos rfl]
    rw [e]
    show (if (Kd.fn A B).ok then some (Kd.fn A B) else none) = _
    rw [if_pos ho]
  | pr A B =>
    show ((ty Γ (.first t)).bind fun a => (ty Γ (.second t)).bind fun b => kindBy .both [a, b]) = _
    have e1 : ty Γ (.first t) = some A := by show ((ty Γ t).bind _) = _; rw [h]; rfl
    have e2 : ty Γ (.second t) = some B := by show ((ty Γ t).bind _) = _; rw [h]; rfl
    rw [e1, e2]
    show (if (Kd.pr A B).ok then some (Kd.pr A B) else none) = _
    rw [if_pos ho]
  | _ => cases hk
theorem mk_ty {Γ : List Kd} {h : Bool} {t : Tr} {r : Str} {k : Kd} (g : r ∈ rulesT Γ h t) (ht : ty Γ t = some k) (ho : k.ok = true) : ty Γ (mkS r t (kOf Γ t)) = some k := by
  rcases rules_cases g with ⟨_, _, t', h1, h2⟩ | ⟨_, h1, _, _, h2⟩
  · rw [h2]; exact made_ty h1 ht
  · rw [h2, kOf_eq ht]; rw [kOf_eq ht] at h1; exact long_ty ht h1 ho
theorem mk_ev {h : Bool} {t : Tr} {r : Str} {k : Kd} {η : List Vl} (g : r ∈ rulesT (ks η) h t) (ht : ty (ks η) t = some k) : ev (mkS r t (kOf (ks η) t)) η = ev t η := by
  rcases rules_cases g with ⟨_, _, t', h1, h2⟩ | ⟨_, h1, _, _, h2⟩
  · rw [h2]; exact made_ev h1 ht
  · rw [h2, kOf_eq ht]
    rw [kOf_eq ht] at h1
    refine long_ev ht ?_
    cases k with
    | fn A B => exact .inl ⟨A, B, rfl⟩
    | pr A B => exact .inr ⟨A, B, rfl⟩
    | _ => cases h1
end K32

/-! # The step as the law makes it; sizes; what stays right -/
namespace K32
open PySem
def stepT : List Kd → Nat → Nat → Str → Tr → Tr
  | Γ, p, q, r, .name i => if p = q then mkS r (.name i) (kOf Γ (.name i)) else .name i
  | Γ, p, q, r, .told i => if p = q then mkS r (.told i) (kOf Γ (.told i)) else .told i
  | Γ, p, q, r, .fn A b => if p = q then mkS r (.fn A b) (kOf Γ (.fn A b)) else .fn A (stepT (A :: Γ) (p + 1) q r b)
  | Γ, p, q, r, .call f a => if p = q then mkS r (.call f a) (kOf Γ (.call f a)) else .call (stepT Γ (p + 1) q r f) (stepT Γ (p + 1 + f.size) q r a)
  | Γ, p, q, r, .both f a => if p = q then mkS r (.both f a) (kOf Γ (.both f a)) else .both (stepT Γ (p + 1) q r f) (stepT Γ (p + 1 + f.size) q r a)
  | Γ, p, q, r, .first b => if p = q then mkS r (.first b) (kOf Γ (.first b)) else .first (stepT Γ (p + 1) q r b)
  | Γ, p, q, r, .second b => if p = q then mkS r (.second b) (kOf Γ (.second b)) else .second (stepT Γ (p + 1) q r b)
  | Γ, p, q, r, .left B b => if p = q then mkS r (.left B b) (kOf Γ (.left B b)) else .left B (stepT Γ (p + 1) q r b)
  | Γ, p, q, r, .right B b => if p = q then mkS r (.right B b) (kOf Γ (.right B b)) else .right B (stepT Γ (p + 1) q r b)
  | Γ, p, q, r, .which s u v => if p = q then mkS r (.which s u v) (kOf Γ (.which s u v)) else .which (stepT Γ (p + 1) q r s) (stepT ((kOf Γ s).one :: Γ) (p + 1 + s.size) q r u) (stepT ((kOf Γ s).two :: Γ) (p + 1 + s.size + u.size) q r v)
  | Γ, p, q, r, .next b => if p = q then mkS r (.next b) (kOf Γ (.next b)) else .next (stepT Γ (p + 1) q r b)
  | Γ, p, q, r, .turns A s u v => if p = q then mkS r (.turns A s u v) (kOf Γ (.turns A s u v)) else .turns A (stepT Γ (p + 1) q r s) (stepT (A :: Γ) (p + 1 + s.size) q r u) (stepT Γ (p + 1 + s.size + u.size) q r v)
  | Γ, p, q, r, .lt a b => if p = q then mkS r (.lt a b) (kOf Γ (.lt a b)) else .lt (stepT Γ (p + 1) q r a) (stepT (kOf Γ a :: Γ) (p + 1 + a.size) q r b)
theorem size_pos (t : Tr) : 1 ≤ t.size := by cases t <;> simp only [Tr.size] <;> omega
theorem stepT_out {q : Nat} {r : Str} (t : Tr) : ∀ Γ p, q < p ∨ p + t.size ≤ q → stepT Γ p q r t = t := by
  induction t with
  | name i => intro Γ p h; simp only [Tr.size] at h; simp only [stepT]; rw [if_neg (by omega)]
  | told i => intro Γ p h; simp only [Tr.size] at h; simp only [stepT]; rw [if_neg (by omega)]
  | fn A b ih => intro Γ p h; simp only [Tr.size] at h; simp only [stepT]; rw [if_neg (by omega), ih _ _ (by omega)]
  | first b ih => intro Γ p h; simp only [Tr.size] at h; simp only [stepT]; rw [if_neg (by omega), ih _ _ (by omega)]
  | second b ih => intro Γ p h; simp only [Tr.size] at h; simp only [stepT]; rw [if_neg (by omega), ih _ _ (by omega)]
  | left A b ih => intro Γ p h; simp only [Tr.size] at h; simp only [stepT]; rw [if_neg (by omega), ih _ _ (by omega)]
  | right A b ih => intro Γ p h; simp only [Tr.size] at h; simp only [stepT]; rw [if_neg (by omega), ih _ _ (by omega)]
  | next b ih => intro Γ p h; simp only [Tr.size] at h; simp only [stepT]; rw [if_neg (by omega), ih _ _ (by omega)]
  | call f a ih1 ih2 => intro Γ p h; have := size_pos f; have := size_pos a; simp only [Tr.size] at h; simp only [stepT]; rw [if_neg (by omega), ih1 _ _ (by omega), ih2 _ _ (by omega)]
  | both f a ih1 ih2 => intro Γ p h; have := size_pos f; have := size_pos a; simp only [Tr.size] at h; simp only [stepT]; rw [if_neg (by omega), ih1 _ _ (by omega), ih2 _ _ (by omega)]
  | lt f a ih1 ih2 => intro Γ p h; have := size_pos f; have := size_pos a; simp only [Tr.size] at h; simp only [stepT]; rw [if_neg (by omega), ih1 _ _ (by omega), ih2 _ _ (by omega)]
  | which s u v ih1 ih2 ih3 => intro Γ p h; have := size_pos s; have := size_pos u; have := size_pos v; simp only [Tr.size] at h; simp only [stepT]; rw [if_neg (by omega), ih1 _ _ (by omega), ih2 _ _ (by omega), ih3 _ _ (by omega)]
  | turns A s u v ih1 ih2 ih3 => intro Γ p h; have := size_pos s; have := size_pos u; have := size_pos v; simp only [Tr.size] at h; simp only [stepT]; rw [if_neg (by omega), ih1 _ _ (by omega), ih2 _ _ (by omega), ih3 _ _ (by omega)]
theorem stepT_plug {c : C1} {s : Tr} {Γ : List Kd} {p q : Nat} {r : Str} (h1 : p + c.pre.length ≤ q) (h2 : q < p + c.pre.length + s.size) : stepT Γ p q r (c.plug s) = c.plug (stepT (c.env Γ) (p + c.pre.length) q r s) := by
  have hs := size_pos s
  cases c with
  | fn A =>
    simp only [C1.pre, List.length_cons, List.length_append, List.length_nil, Tr.flat_len, Nat.zero_add] at h1 h2
    simp only [C1.plug, stepT, C1.pre, C1.env, List.length_cons, List.length_append, List.length_nil, Tr.flat_len, Nat.zero_add]
    rw [if_neg (by omega)]
  | first =>
    simp only [C1.pre, List.length_cons, List.length_append, List.length_nil, Tr.flat_len, Nat.zero_add] at h1 h2
    simp only [C1.plug, stepT, C1.pre, C1.env, List.length_cons, List.length_append, List.length_nil, Tr.flat_len, Nat.zero_add]
    rw [if_neg (by omega)]
  | second =>
    simp only [C1.pre, List.length_cons, List.length_append, List.length_nil, Tr.flat_len, Nat.zero_add] at h1 h2
    simp only [C1.plug, stepT, C1.pre, C1.env, List.length_cons, List.length_append, List.length_nil, Tr.flat_len, Nat.zero_add]
    rw [if_neg (by omega)]
  | left B =>
    simp only [C1.pre, List.length_cons, List.length_append, List.length_nil, Tr.flat_len, Nat.zero_add] at h1 h2
    simp only [C1.plug, stepT, C1.pre, C1.env, List.length_cons, List.length_append, List.length_nil, Tr.flat_len, Nat.zero_add]
    rw [if_neg (by omega)]
  | right A =>
    simp only [C1.pre, List.length_cons, List.length_append, List.length_nil, Tr.flat_len, Nat.zero_add] at h1 h2
    simp only [C1.plug, stepT, C1.pre, C1.env, List.length_cons, List.length_append, List.length_nil, Tr.flat_len, Nat.zero_add]
    rw [if_neg (by omega)]
  | next =>
    simp only [C1.pre, List.length_cons, List.length_append, List.length_nil, Tr.flat_len, Nat.zero_add] at h1 h2
    simp only [C1.plug, stepT, C1.pre, C1.env, List.length_cons, List.length_append, List.length_nil, Tr.flat_len, Nat.zero_add]
    rw [if_neg (by omega)]
  | callL a =>
    simp only [C1.pre, List.length_cons, List.length_append, List.length_nil, Tr.flat_len, Nat.zero_add] at h1 h2
    simp only [C1.plug, stepT, C1.pre, C1.env, List.length_cons, List.length_append, List.length_nil, Tr.flat_len, Nat.zero_add]
    rw [if_neg (by omega)]
    rw [stepT_out a _ _ (by omega)]
  | callR f =>
    simp only [C1.pre, List.length_cons, List.length_append, List.length_nil, Tr.flat_len, Nat.zero_add] at h1 h2
    simp only [C1.plug, stepT, C1.pre, C1.env, List.length_cons, List.length_append, List.length_nil, Tr.flat_len, Nat.zero_add]
    rw [if_neg (by omega)]
    rw [show p + (f.size + 1) = p + 1 + f.size by omega, stepT_out f _ _ (by omega)]
  | bothL a =>
    simp only [C1.pre, List.length_cons, List.length_append, List.length_nil, Tr.flat_len, Nat.zero_add] at h1 h2
    simp only [C1.plug, stepT, C1.pre, C1.env, List.length_cons, List.length_append, List.length_nil, Tr.flat_len, Nat.zero_add]
    rw [if_neg (by omega)]
    rw [stepT_out a _ _ (by omega)]
  | bothR f =>
    simp only [C1.pre, List.length_cons, List.length_append, List.length_nil, Tr.flat_len, Nat.zero_add] at h1 h2
    simp only [C1.plug, stepT, C1.pre, C1.env, List.length_cons, List.length_append, List.length_nil, Tr.flat_len, Nat.zero_add]
    rw [if_neg (by omega)]
    rw [show p + (f.size + 1) = p + 1 + f.size by omega, stepT_out f _ _ (by omega)]
  | whS l r =>
    simp only [C1.pre, List.length_cons, List.length_append, List.length_nil, Tr.flat_len, Nat.zero_add] at h1 h2
    simp only [C1.plug, stepT, C1.pre, C1.env, List.length_cons, List.length_append, List.length_nil, Tr.flat_len, Nat.zero_add]
    rw [if_neg (by omega)]
    rw [stepT_out l _ _ (by omega), stepT_out r _ _ (by omega)]
  | whL s0 r =>
    simp only [C1.pre, List.length_cons, List.length_append, List.length_nil, Tr.flat_len, Nat.zero_add] at h1 h2
    simp only [C1.plug, stepT, C1.pre, C1.env, List.length_cons, List.length_append, List.length_nil, Tr.flat_len, Nat.zero_add]
    rw [if_neg (by omega)]
    rw [show p + (s0.size + 1) = p + 1 + s0.size by omega, stepT_out s0 _ _ (by omega), stepT_out r _ _ (by omega)]
  | whR s0 l =>
    simp only [C1.pre, List.length_cons, List.length_append, List.length_nil, Tr.flat_len, Nat.zero_add] at h1 h2
    simp only [C1.plug, stepT, C1.pre, C1.env, List.length_cons, List.length_append, List.length_nil, Tr.flat_len, Nat.zero_add]
    rw [if_neg (by omega)]
    rw [show p + (s0.size + l.size + 1) = p + 1 + s0.size + l.size by omega, stepT_out s0 _ _ (by omega), stepT_out l _ _ (by omega)]
  | tuN A u s0 =>
    simp only [C1.pre, List.length_cons, List.length_append, List.length_nil, Tr.flat_len, Nat.zero_add] at h1 h2
    simp only [C1.plug, stepT, C1.pre, C1.env, List.length_cons, List.length_append, List.length_nil, Tr.flat_len, Nat.zero_add]
    rw [if_neg (by omega)]
    rw [stepT_out u _ _ (by omega), stepT_out s0 _ _ (by omega)]
  | tuU A n s0 =>
    simp only [C1.pre, List.length_cons, List.length_append, List.length_nil, Tr.flat_len, Nat.zero_add] at h1 h2
    simp only [C1.plug, stepT, C1.pre, C1.env, List.length_cons, List.length_append, List.length_nil, Tr.flat_len, Nat.zero_add]
    rw [if_neg (by omega)]
    rw [show p + (n.size + 1) = p + 1 + n.size by omega, stepT_out n _ _ (by omega), stepT_out s0 _ _ (by omega)]
  | tuS A n u =>
    simp only [C1.pre, List.length_cons, List.length_append, List.length_nil, Tr.flat_len, Nat.zero_add] at h1 h2
    simp only [C1.plug, stepT, C1.pre, C1.env, List.length_cons, List.length_append, List.length_nil, Tr.flat_len, Nat.zero_add]
    rw [if_neg (by omega)]
    rw [show p + (n.size + u.size + 1) = p + 1 + n.size + u.size by omega, stepT_out n _ _ (by omega), stepT_out u _ _ (by omega)]
  | ltA b =>
    simp only [C1.pre, List.length_cons, List.length_append, List.length_nil, Tr.flat_len, Nat.zero_add] at h1 h2
    simp only [C1.plug, stepT, C1.pre, C1.env, List.length_cons, List.length_append, List.length_nil, Tr.flat_len, Nat.zero_add]
    rw [if_neg (by omega)]
    rw [stepT_out b _ _ (by omega)]
  | ltB a =>
    simp only [C1.pre, List.length_cons, List.length_append, List.length_nil, Tr.flat_len, Nat.zero_add] at h1 h2
    simp only [C1.plug, stepT, C1.pre, C1.env, List.length_cons, List.length_append, List.length_nil, Tr.flat_len, Nat.zero_add]
    rw [if_neg (by omega)]
    rw [show p + (a.size + 1) = p + 1 + a.size by omega, stepT_out a _ _ (by omega)]
theorem stepT_plugs : ∀ (C : List C1) {s : Tr} {Γ : List Kd} {p : Nat} {r : Str}, stepT Γ p (p + offs C) r (plugs C s) = plugs C (mkS r s (kOf (envs Γ C) s))
  | [], s, Γ, p, r => by
    show stepT Γ p p r s = mkS r s (kOf Γ s)
    cases s <;> simp only [stepT, if_true]
  | c :: C, s, Γ, p, r => by
    obtain ⟨rest, _, h2⟩ := flat_plugs C s
    have hs := size_pos s
    show stepT Γ p (p + (c.pre.length + offs C)) r (c.plug (plugs C s)) = _
    rw [stepT_plug (by omega) (by omega), ← Nat.add_assoc, stepT_plugs C]
    rfl
/-! ## sizes -/
def occ : Nat → Tr → Nat
  | d, .name i => if i = d then 1 else 0
  | _, .told _ => 0
  | d, .fn A b => occ (d + 1) b
  | d, .call f a => occ d f + occ d a
  | d, .both a b => occ d a + occ d b
  | d, .first p => occ d p
  | d, .second p => occ d p
  | d, .left B a => occ d a
  | d, .right A a => occ d a
  | d, .which s l r => occ d s + occ (d + 1) l + occ (d + 1) r
  | d, .next n => occ d n
  | d, .turns A n u s => occ d n + occ (d + 1) u + occ d s
  | d, .lt a b => occ d a + occ (d + 1) b
theorem size_lift {m : Nat} (t : Tr) : ∀ d, (Tr.lift m d t).size = t.size := by
  induction t <;> intro d <;> simp only [Tr.lift, Tr.size, *]
  split <;> rfl
theorem size_put {o : Tr} (t : Tr) : ∀ d, (Tr.put o d t).size + occ d t = t.size + occ d t * o.size := by
  induction t with
  | name i =>
    intro d
    simp only [Tr.put, occ]
    split
    · rw [size_lift]; simp only [Tr.size]; omega
    · split <;> simp only [Tr.size] <;> omega
  | told n => intro d; simp only [Tr.put, occ, Tr.size]; omega
  | fn A b ih => intro d; have := ih (d + 1); simp only [Tr.put, occ, Tr.size]; omega
  | first b ih => intro d; have := ih d; simp only [Tr.put, occ, Tr.size]; omega
  | second b ih => intro d; have := ih d; simp only [Tr.put, occ, Tr.size]; omega
  | left A b ih => intro d; have := ih d; simp only [Tr.put, occ, Tr.size]; omega
  | right A b ih => intro d; have := ih d; simp only [Tr.put, occ, Tr.size]; omega
  | next b ih => intro d; have := ih d; simp only [Tr.put, occ, Tr.size]; omega
  | call f a ih1 ih2 => intro d; have := ih1 d; have := ih2 d; simp only [Tr.put, occ, Tr.size, Nat.add_mul]; omega
  | both f a ih1 ih2 => intro d; have := ih1 d; have := ih2 d; simp only [Tr.put, occ, Tr.size, Nat.add_mul]; omega
  | lt f a ih1 ih2 => intro d; have := ih1 d; have := ih2 (d + 1); simp only [Tr.put, occ, Tr.size, Nat.add_mul]; omega
  | which s u v ih1 ih2 ih3 => intro d; have := ih1 d; have := ih2 (d + 1); have := ih3 (d + 1); simp only [Tr.put, occ, Tr.size, Nat.add_mul]; omega
  | turns A s u v ih1 ih2 ih3 => intro d; have := ih1 d; have := ih2 (d + 1); have := ih3 d; simp only [Tr.put, occ, Tr.size, Nat.add_mul]; omega
theorem occ_le (t : Tr) : ∀ d, 3 * occ d t ≤ 2 * t.size + 1 := by
  induction t with
  | name i => intro d; simp only [occ, Tr.size]; split <;> omega
  | told i => intro d; simp only [occ, Tr.size]; omega
  | fn A b ih => intro d; have := ih (d + 1); simp only [occ, Tr.size]; omega
  | first b ih => intro d; have := ih d; simp only [occ, Tr.size]; omega
  | second b ih => intro d; have := ih d; simp only [occ, Tr.size]; omega
  | left A b ih => intro d; have := ih d; simp only [occ, Tr.size]; omega
  | right A b ih => intro d; have := ih d; simp only [occ, Tr.size]; omega
  | next b ih => intro d; have := ih d; simp only [occ, Tr.size]; omega
  | call f a ih1 ih2 => intro d; have := ih1 d; have := ih2 d; simp only [occ, Tr.size]; omega
  | both f a ih1 ih2 => intro d; have := ih1 d; have := ih2 d; simp only [occ, Tr.size]; omega
  | lt f a ih1 ih2 => intro d; have := ih1 d; have := ih2 (d + 1); simp only [occ, Tr.size]; omega
  | which s u v ih1 ih2 ih3 => intro d; have := ih1 d; have := ih2 (d + 1); have := ih3 (d + 1); simp only [occ, Tr.size]; omega
  | turns A s u v ih1 ih2 ih3 => intro d; have := ih1 d; have := ih2 (d + 1); have := ih3 d; simp only [occ, Tr.size]; omega
theorem put_num {x b a o : Nat} (h : x + b + a ≤ 39) (ho : 3 * o ≤ 2 * b + 1) : x + b + o * a ≤ 300 + o := by
  have : o = 0 ∨ o = 1 ∨ o = 2 ∨ o = 3 ∨ o = 4 ∨ o = 5 ∨ o = 6 ∨ o = 7 ∨ o = 8 ∨ o = 9 ∨ o = 10 ∨ o = 11 ∨ o = 12 ∨ o = 13 ∨ o = 14 ∨ o = 15 ∨ o = 16 ∨ o = 17 ∨ o = 18 ∨ o = 19 ∨ o = 20 ∨ o = 21 ∨ o = 22 ∨ o = 23 ∨ o = 24 ∨ o = 25 ∨ o = 26 := by omega
  rcases this with rfl | rfl | rfl | rfl | rfl | rfl | rfl | rfl | rfl | rfl | rfl | rfl | rfl | rfl | rfl | rfl | rfl | rfl | rfl | rfl | rfl | rfl | rfl | rfl | rfl | rfl | rfl <;> omega
theorem put_size {o t : Tr} {x : Nat} (h : x + t.size + o.size ≤ 39) : x + (Tr.put o 0 t).size ≤ 300 := by
  have h1 := size_put (o := o) t 0
  have h2 := put_num (x := x) (b := t.size) (a := o.size) (o := occ 0 t) h (occ_le t 0)
  omega
/-! ## the steps of turns: what is done again and again -/
def nu : Nat → Bool → Tr → Prop
  | d, _, .name i => i ≤ d
  | d, h, .fn _ b => h = false ∧ nu (d + 1) false b
  | d, h, .both a b => h = false ∧ nu d false a ∧ nu d false b
  | d, _, .call f a => nu d true f ∧ nu d false a ∧ occ d a = 0
  | d, _, .first p => nu d true p
  | d, _, .second p => nu d true p
  | _, _, _ => False
theorem nu_id {o : Tr} {m : Nat} (t : Tr) : ∀ {d : Nat} {h : Bool}, nu d h t → ∀ e, d < e → Tr.put o e t = t ∧ Tr.lift m e t = t := by
  induction t with
  | name i => intro d h n e he; simp only [nu] at n; simp only [Tr.put, Tr.lift]; rw [if_neg (by omega), if_neg (by omega), if_neg (by omega)]; exact ⟨rfl, rfl⟩
  | fn A b ih => intro d h n e he; obtain ⟨_, n⟩ := n; have := ih n (e + 1) (by omega); simp only [Tr.put, Tr.lift, this.1, this.2]; exact ⟨trivial, trivial⟩
  | call f a ih1 ih2 => intro d h n e he; obtain ⟨n1, n2, _⟩ := n; simp only [Tr.put, Tr.lift, (ih1 n1 e he).1, (ih1 n1 e he).2, (ih2 n2 e he).1, (ih2 n2 e he).2]; exact ⟨trivial, trivial⟩
  | both f a ih1 ih2 => intro d h n e he; obtain ⟨_, n1, n2⟩ := n; simp only [Tr.put, Tr.lift, (ih1 n1 e he).1, (ih1 n1 e he).2, (ih2 n2 e he).1, (ih2 n2 e he).2]; exact ⟨trivial, trivial⟩
  | first b ih => intro d h n e he; have n : nu d true b := n; have := ih n e he; simp only [Tr.put, Tr.lift, this.1, this.2]; exact ⟨trivial, trivial⟩
  | second b ih => intro d h n e he; have n : nu d true b := n; have := ih n e he; simp only [Tr.put, Tr.lift, this.1, this.2]; exact ⟨trivial, trivial⟩
  | _ => intro d h n; exact n.elim
theorem nu_occ (t : Tr) : ∀ {d : Nat}, nu d true t → occ d t ≤ 1 := by
  induction t with
  | name i => intro d n; simp only [occ]; split <;> omega
  | fn A b ih => intro d n; cases n.1
  | both f a ih1 ih2 => intro d n; cases n.1
  | call f a ih1 ih2 => intro d n; obtain ⟨n1, n2, n3⟩ := n; have := ih1 n1; simp only [occ]; omega
  | first b ih => intro d n; exact ih (d := d) n
  | second b ih => intro d n; exact ih (d := d) n
  | _ => intro d n; exact n.elim
theorem occ_lift (t : Tr) : ∀ {d e : Nat}, e ≤ d → occ (d + 1) (Tr.lift 1 e t) = occ d t := by
  induction t with
  | name i => intro d e he; simp only [Tr.lift]; split <;> simp only [occ] <;> split <;> split <;> omega
  | told n => intro d e he; rfl
  | fn A b ih => intro d e he; simp only [Tr.lift, occ]; exact ih (by omega)
  | first b ih => intro d e he; simp only [Tr.lift, occ]; exact ih he
  | second b ih => intro d e he; simp only [Tr.lift, occ]; exact ih he
  | left A b ih => intro d e he; simp only [Tr.lift, occ]; exact ih he
  | right A b ih => intro d e he; simp only [Tr.lift, occ]; exact ih he
  | next b ih => intro d e he; simp only [Tr.lift, occ]; exact ih he
  | call f a ih1 ih2 => intro d e he; simp only [Tr.lift, occ, ih1 he, ih2 he]
  | both f a ih1 ih2 => intro d e he; simp only [Tr.lift, occ, ih1 he, ih2 he]
  | lt f a ih1 ih2 => intro d e he; simp only [Tr.lift, occ, ih1 he, ih2 (Nat.succ_le_succ he)]
  | which s u v ih1 ih2 ih3 => intro d e he; simp only [Tr.lift, occ, ih1 he, ih2 (Nat.succ_le_succ he), ih3 (Nat.succ_le_succ he)]
  | turns A s u v ih1 ih2 ih3 => intro d e he; simp only [Tr.lift, occ, ih1 he, ih2 (Nat.succ_le_succ he), ih3 he]
theorem nu_lift (t : Tr) : ∀ {d e : Nat} {h : Bool}, nu d h t → e ≤ d → nu (d + 1) h (Tr.lift 1 e t) := by
  induction t with
  | name i => intro d e h n he; simp only [nu] at n; simp only [Tr.lift]; split <;> simp only [nu] <;> omega
  | fn A b ih => intro d e h n he; exact ⟨n.1, ih n.2 (Nat.succ_le_succ he)⟩
  | call f a ih1 ih2 => intro d e h n he; exact ⟨ih1 n.1 he, ih2 n.2.1 he, by rw [occ_lift a he]; exact n.2.2⟩
  | both f a ih1 ih2 => intro d e h n he; exact ⟨n.1, ih1 n.2.1 he, ih2 n.2.2 he⟩
  | first b ih => intro d e h n he; exact ih (d := d) (h := true) n he
  | second b ih => intro d e h n he; exact ih (d := d) (h := true) n he
  | _ => intro d e h n; exact n.elim
theorem nu_made {t : Tr} {d : Nat} {h : Bool} (n : nu d h t) : madeW t = none := by
  cases t with
  | call f a => cases f <;> first | rfl | (exact absurd n.1.1 (by decide))
  | first f => cases f <;> first | rfl | (have n : _ ∧ _ := n; exact absurd n.1 (by decide))
  | second f => cases f <;> first | rfl | (have n : _ ∧ _ := n; exact absurd n.1 (by decide))
  | name i => rfl
  | fn A b => rfl
  | both a b => rfl
  | _ => exact n.elim
theorem nu_true {t : Tr} {d : Nat} {h : Bool} (n : nu d h t) (hf : isFB t = false) : nu d true t := by
  cases t <;> first | exact n | cases hf
theorem nu_long {t : Tr} {d : Nat} {k : Kd} (n : nu d false t) (hf : isFB t = false) (hk : isFP k = true) : nu d false (madeLong t k) ∧ occ d (madeLong t k) ≤ occ d t + 1 ∧ (occ d t = 0 → occ d (madeLong t k) = 0) := by
  have n1 := nu_true n hf
  have h1 := nu_occ t n1
  cases k with
  | fn A B =>
    have e : occ d (madeLong t (.fn A B)) = occ d t := by
      show occ (d + 1) (Tr.lift 1 0 t) + (if 0 = d + 1 then 1 else 0) = _
      rw [occ_lift t (Nat.zero_le _), if_neg (by omega)]; rfl
    exact ⟨⟨rfl, nu_lift t n1 (Nat.zero_le _), Nat.zero_le _, rfl⟩, by omega, by omega⟩
  | pr A B => exact ⟨⟨rfl, n1, n1⟩, by show occ d t + occ d t ≤ _; omega, fun e => by show occ d t + occ d t = 0; omega⟩
  | _ => cases hk
end K32

/-! # What stays right behind a step -/
namespace K32
open PySem
/-- a step within what is done again and again -/
theorem nu_step : ∀ (C : List C1) {s : Tr} {d : Nat} {h : Bool} {Γ : List Kd} {r : Str}, nu d h (plugs C s) → r ∈ rulesT Γ (helds h C) s →
    nu d h (plugs C (mkS r s (kOf Γ s))) ∧ occ d (plugs C (mkS r s (kOf Γ s))) ≤ occ d (plugs C s) + 1 ∧ (occ d (plugs C s) = 0 → occ d (plugs C (mkS r s (kOf Γ s))) = 0)
  | [], s, d, h, Γ, r, n, g => by
    rcases rules_cases g with ⟨_, _, t', h1, _⟩ | ⟨_, h1, h2, h3, h4⟩
    · have n : nu d h s := n
      rw [nu_made n] at h1; cases h1
    · have h2 : h = false := h2
      subst h2
      show nu d false (mkS r s (kOf Γ s)) ∧ occ d (mkS r s (kOf Γ s)) ≤ occ d s + 1 ∧ (occ d s = 0 → occ d (mkS r s (kOf Γ s)) = 0)
      rw [h4]
      exact nu_long n h3 h1
  | c :: C, s, d, h, Γ, r, n, g => by
    have n : nu d h (c.plug (plugs C s)) := n
    cases c with
    | fn A =>
      obtain ⟨n0, n1⟩ := n
      obtain ⟨h1, h2, h3⟩ := nu_step C n1 g
      exact ⟨⟨n0, h1⟩, h2, h3⟩
    | first => exact nu_step C (h := true) (d := d) n g
    | second => exact nu_step C (h := true) (d := d) n g
    | callL a =>
      obtain ⟨n1, n2, n3⟩ := n
      obtain ⟨h1, h2, h3⟩ := nu_step C n1 g
      refine ⟨⟨h1, n2, n3⟩, ?_, ?_⟩
      · show occ d (plugs C (mkS r s (kOf Γ s))) + occ d a ≤ occ d (plugs C s) + occ d a + 1; omega
      · intro e
        have e : occ d (plugs C s) + occ d a = 0 := e
        show occ d (plugs C (mkS r s (kOf Γ s))) + occ d a = 0
        have := h3 (by omega); omega
    | callR f =>
      obtain ⟨n1, n2, n3⟩ := n
      obtain ⟨h1, h2, h3⟩ := nu_step C n2 g
      refine ⟨⟨n1, h1, h3 n3⟩, ?_, ?_⟩
      · show occ d f + occ d (plugs C (mkS r s (kOf Γ s))) ≤ occ d f + occ d (plugs C s) + 1; omega
      · intro e
        have e : occ d f + occ d (plugs C s) = 0 := e
        show occ d f + occ d (plugs C (mkS r s (kOf Γ s))) = 0
        have := h3 (by omega); omega
    | bothL a =>
      obtain ⟨n0, n1, n2⟩ := n
      obtain ⟨h1, h2, h3⟩ := nu_step C n1 g
      refine ⟨⟨n0, h1, n2⟩, ?_, ?_⟩
      · show occ d (plugs C (mkS r s (kOf Γ s))) + occ d a ≤ occ d (plugs C s) + occ d a + 1; omega
      · intro e
        have e : occ d (plugs C s) + occ d a = 0 := e
        show occ d (plugs C (mkS r s (kOf Γ s))) + occ d a = 0
        have := h3 (by omega); omega
    | bothR f =>
      obtain ⟨n0, n1, n2⟩ := n
      obtain ⟨h1, h2, h3⟩ := nu_step C n2 g
      refine ⟨⟨n0, n1, h1⟩, ?_, ?_⟩
      · show occ d f + occ d (plugs C (mkS r s (kOf Γ s))) ≤ occ d f + occ d (plugs C s) + 1; omega
      · intro e
        have e : occ d f + occ d (plugs C s) = 0 := e
        show occ d f + occ d (plugs C (mkS r s (kOf Γ s))) = 0
        have := h3 (by omega); omega
    | _ => exact n.elim
/-- all the turns within are done with few names -/
def tb (c : Nat) : Tr → Prop
  | .name _ => True
  | .told _ => True
  | .fn _ b => tb c b
  | .call f a => tb c f ∧ tb c a
  | .both a b => tb c a ∧ tb c b
  | .first p => tb c p
  | .second p => tb c p
  | .left _ a => tb c a
  | .right _ a => tb c a
  | .which s l r => tb c s ∧ tb c l ∧ tb c r
  | .next n => tb c n
  | .turns _ n u s => tb c n ∧ (nu 0 false u ∧ occ 0 u ≤ c) ∧ tb c s
  | .lt a b => tb c a ∧ tb c b
theorem tb_mono {c d : Nat} (h : c ≤ d) (t : Tr) : tb c t → tb d t := by
  induction t with
  | turns A n u s ih1 ih2 ih3 => exact fun ⟨a, ⟨b1, b2⟩, e⟩ => ⟨ih1 a, ⟨b1, Nat.le_trans b2 h⟩, ih3 e⟩
  | name i => exact fun _ => trivial
  | told i => exact fun _ => trivial
  | fn A b ih => exact ih
  | first b ih => exact ih
  | second b ih => exact ih
  | left A b ih => exact ih
  | right A b ih => exact ih
  | next b ih => exact ih
  | call f a ih1 ih2 => exact fun ⟨a, b⟩ => ⟨ih1 a, ih2 b⟩
  | both f a ih1 ih2 => exact fun ⟨a, b⟩ => ⟨ih1 a, ih2 b⟩
  | lt f a ih1 ih2 => exact fun ⟨a, b⟩ => ⟨ih1 a, ih2 b⟩
  | which s u v ih1 ih2 ih3 => exact fun ⟨a, b, c⟩ => ⟨ih1 a, ih2 b, ih3 c⟩
theorem tb_lift {c m : Nat} (t : Tr) : ∀ d, tb c t → tb c (Tr.lift m d t) := by
  induction t with
  | turns A n u s ih1 ih2 ih3 => exact fun d ⟨a, ⟨b1, b2⟩, e⟩ => ⟨ih1 d a, by rw [(nu_id (o := n) (m := m) u b1 (d + 1) (by omega)).2]; exact ⟨b1, b2⟩, ih3 d e⟩
  | name i => intro d _; simp only [Tr.lift]; split <;> trivial
  | told i => exact fun _ _ => trivial
  | fn A b ih => exact fun d h => ih (d + 1) h
  | first b ih => exact ih
  | second b ih => exact ih
  | left A b ih => exact ih
  | right A b ih => exact ih
  | next b ih => exact ih
  | call f a ih1 ih2 => exact fun d ⟨a, b⟩ => ⟨ih1 d a, ih2 d b⟩
  | both f a ih1 ih2 => exact fun d ⟨a, b⟩ => ⟨ih1 d a, ih2 d b⟩
  | lt f a ih1 ih2 => exact fun d ⟨a, b⟩ => ⟨ih1 d a, ih2 _ b⟩
  | which s u v ih1 ih2 ih3 => exact fun d ⟨a, b, c⟩ => ⟨ih1 d a, ih2 _ b, ih3 _ c⟩
theorem tb_put {c : Nat} {o : Tr} (ho : tb c o) (t : Tr) : ∀ d, tb c t → tb c (Tr.put o d t) := by
  induction t with
  | turns A n u s ih1 ih2 ih3 => exact fun d ⟨a, ⟨b1, b2⟩, e⟩ => ⟨ih1 d a, by rw [(nu_id (o := o) (m := 0) u b1 (d + 1) (by omega)).1]; exact ⟨b1, b2⟩, ih3 d e⟩
  | name i => intro d _; simp only [Tr.put]; split; exact tb_lift o _ ho; split <;> trivial
  | told i => exact fun _ _ => trivial
  | fn A b ih => exact fun d h => ih (d + 1) h
  | first b ih => exact ih
  | second b ih => exact ih
  | left A b ih => exact ih
  | right A b ih => exact ih
  | next b ih => exact ih
  | call f a ih1 ih2 => exact fun d ⟨a, b⟩ => ⟨ih1 d a, ih2 d b⟩
  | both f a ih1 ih2 => exact fun d ⟨a, b⟩ => ⟨ih1 d a, ih2 d b⟩
  | lt f a ih1 ih2 => exact fun d ⟨a, b⟩ => ⟨ih1 d a, ih2 _ b⟩
  | which s u v ih1 ih2 ih3 => exact fun d ⟨a, b, c⟩ => ⟨ih1 d a, ih2 _ b, ih3 _ c⟩
theorem nu_tb {c : Nat} (t : Tr) : ∀ {d : Nat} {h : Bool}, nu d h t → tb c t := by
  induction t with
  | name i => intros; trivial
  | fn A b ih => exact fun n => ih n.2
  | call f a ih1 ih2 => exact fun n => ⟨ih1 n.1, ih2 n.2.1⟩
  | both f a ih1 ih2 => exact fun n => ⟨ih1 n.2.1, ih2 n.2.2⟩
  | first b ih => intro d h n; exact ih (d := d) (h := true) n
  | second b ih => intro d h n; exact ih (d := d) (h := true) n
  | _ => intro d h n; exact n.elim
theorem tb_made {c : Nat} {t t' : Tr} (hm : madeW t = some t') (h : tb c t) : tb c t' := by
  cases t with
  | call f a => cases f <;> cases hm; exact tb_put h.2 _ _ h.1
  | first p => cases p <;> cases hm; exact (show tb c _ ∧ tb c _ from h).1
  | second p => cases p <;> cases hm; exact (show tb c _ ∧ tb c _ from h).2
  | which s l r =>
    cases s with
    | left B a => cases hm; exact tb_put (o := a) h.1 l 0 h.2.1
    | right B a => cases hm; exact tb_put (o := a) h.1 r 0 h.2.2
    | _ => cases hm
  | next q => cases q <;> cases hm; trivial
  | turns A n u s =>
    cases n <;> try (cases hm; done)
    rename_i n
    cases hm
    cases n with
    | zero => exact h.2.2
    | succ n => exact tb_put (o := .turns A (.told n) u s) (by exact ⟨trivial, h.2.1, h.2.2⟩) u 0 (nu_tb u h.2.1.1)
  | lt a b => cases hm; exact tb_put h.1 _ _ h.2
  | name i => cases hm
  | told i => cases hm
  | fn A b => cases hm
  | both a b => cases hm
  | left B a => cases hm
  | right B a => cases hm
theorem tb_long {c : Nat} {t : Tr} {k : Kd} (h : tb c t) : tb c (madeLong t k) := by
  cases k <;> first | exact ⟨h, h⟩ | exact ⟨tb_lift t 0 h, trivial⟩
theorem tb_mk {c : Nat} {t : Tr} {k : Kd} {r : Str} (h : tb c t) : tb c (mkS r t k) := by
  unfold mkS
  split
  · exact tb_long h
  · cases e : madeW t with
    | none => exact h
    | some t' => exact tb_made e h
theorem tb_step {c : Nat} : ∀ (C : List C1) {s : Tr} {h : Bool} {Γ : List Kd} {r : Str}, tb c (plugs C s) → r ∈ rulesT Γ (helds h C) s → tb (c + 1) (plugs C (mkS r s (kOf Γ s)))
  | [], s, h, Γ, r, n, g => tb_mono (Nat.le_succ c) _ (tb_mk n)
  | x :: C, s, h, Γ, r, n, g => by
    have n : tb c (x.plug (plugs C s)) := n
    have m : ∀ t, tb c t → tb (c + 1) t := fun t => tb_mono (Nat.le_succ c) t
    cases x with
    | tuU A n0 s0 =>
      obtain ⟨n1, ⟨n2, n3⟩, n4⟩ := n
      obtain ⟨h1, h2, _⟩ := nu_step C (h := false) n2 g
      exact ⟨m _ n1, ⟨h1, by omega⟩, m _ n4⟩
    | fn A => exact tb_step C (h := false) (c := c) n g
    | first => exact tb_step C (h := true) (c := c) n g
    | second => exact tb_step C (h := true) (c := c) n g
    | left A => exact tb_step C (h := false) (c := c) n g
    | right A => exact tb_step C (h := false) (c := c) n g
    | next => exact tb_step C (h := false) (c := c) n g
    | callL a => exact ⟨tb_step C n.1 g, m _ n.2⟩
    | callR a => exact ⟨m _ n.1, tb_step C n.2 g⟩
    | bothL a => exact ⟨tb_step C n.1 g, m _ n.2⟩
    | bothR a => exact ⟨m _ n.1, tb_step C n.2 g⟩
    | ltA a => exact ⟨tb_step C n.1 g, m _ n.2⟩
    | ltB a => exact ⟨m _ n.1, tb_step C n.2 g⟩
    | whS l r => exact ⟨tb_step C n.1 g, m _ n.2.1, m _ n.2.2⟩
    | whL l r => exact ⟨m _ n.1, tb_step C n.2.1 g, m _ n.2.2⟩
    | whR l r => exact ⟨m _ n.1, m _ n.2.1, tb_step C n.2.2 g⟩
    | tuN A u s => exact ⟨tb_step C n.1 g, ⟨n.2.1.1, by have := n.2.1.2; omega⟩, m _ n.2.2⟩
    | tuS A u s => exact ⟨m _ n.1, ⟨n.2.1.1, by have := n.2.1.2; omega⟩, tb_step C n.2.2 g⟩
theorem nu_sub : ∀ (C : List C1) {s : Tr} {d : Nat} {h : Bool}, nu d h (plugs C s) → ∃ d' h', nu d' h' s
  | [], s, d, h, n => ⟨d, h, n⟩
  | c :: C, s, d, h, n => by
    have n : nu d h (c.plug (plugs C s)) := n
    cases c with
    | fn A => exact nu_sub C n.2
    | first => exact nu_sub C (h := true) (d := d) n
    | second => exact nu_sub C (h := true) (d := d) n
    | callL a => exact nu_sub C n.1
    | callR a => exact nu_sub C n.2.1
    | bothL a => exact nu_sub C n.2.1
    | bothR a => exact nu_sub C n.2.2
    | _ => exact n.elim
theorem tb_sub {c : Nat} : ∀ (C : List C1) {s : Tr}, tb c (plugs C s) → tb c s
  | [], s, n => n
  | x :: C, s, n => by
    have n : tb c (x.plug (plugs C s)) := n
    cases x with
    | tuU A n0 s0 => obtain ⟨d, h, q⟩ := nu_sub C n.2.1.1; exact nu_tb s q
    | fn A => exact tb_sub C n
    | first => exact tb_sub C n
    | second => exact tb_sub C n
    | left A => exact tb_sub C n
    | right A => exact tb_sub C n
    | next => exact tb_sub C n
    | callL a => exact tb_sub C n.1
    | callR a => exact tb_sub C n.2
    | bothL a => exact tb_sub C n.1
    | bothR a => exact tb_sub C n.2
    | ltA a => exact tb_sub C n.1
    | ltB a => exact tb_sub C n.2
    | whS l r => exact tb_sub C n.1
    | whL l r => exact tb_sub C n.2.1
    | whR l r => exact tb_sub C n.2.2
    | tuN A u s => exact tb_sub C n.1
    | tuS A u s => exact tb_sub C n.2.2
/-- a step from few nodes -/
theorem mk_size {x : Nat} {t : Tr} {k : Kd} {r : Str} (h : tb 4 t) (hx : x + t.size ≤ 40) : x + (mkS r t k).size ≤ 300 := by
  unfold mkS
  split
  · cases k <;> simp only [madeLong, Tr.size, size_lift] <;> omega
  · cases e : madeW t with
    | none => show x + t.size ≤ 300; omega
    | some t' =>
      show x + t'.size ≤ 300
      cases t with
      | call f a => cases f <;> cases e; simp only [Tr.size] at hx; exact put_size (by omega)
      | first p => cases p <;> cases e; simp only [Tr.size] at hx; omega
      | second p => cases p <;> cases e; simp only [Tr.size] at hx; omega
      | which s l r =>
        cases s <;> cases e
        · simp only [Tr.size] at hx; have := put_size (x := x) (o := ‹Tr›) (t := l) (by omega); omega
        · simp only [Tr.size] at hx; have := put_size (x := x) (o := ‹Tr›) (t := r) (by omega); omega
      | next q => cases q <;> cases e; simp only [Tr.size] at hx ⊢; omega
      | turns A n u s =>
        cases n <;> try (cases e; done)
        rename_i n
        cases e
        cases n with
        | zero => simp only [Tr.size] at hx; show x + s.size ≤ 300; omega
        | succ n =>
          have h1 := size_put (o := .turns A (.told n) u s) u 0
          have h2 : occ 0 u ≤ 4 := h.2.1.2
          show x + (Tr.put (.turns A (.told n) u s) 0 u).size ≤ 300
          simp only [Tr.size] at hx h1
          have : occ 0 u = 0 ∨ occ 0 u = 1 ∨ occ 0 u = 2 ∨ occ 0 u = 3 ∨ occ 0 u = 4 := by omega
          rcases this with q | q | q | q | q <;> rw [q] at h1 <;> omega
      | lt a b => cases e; simp only [Tr.size] at hx; exact put_size (by omega)
      | name i => cases e
      | told i => cases e
      | fn A b => cases e
      | both a b => cases e
      | left B a => cases e
      | right B a => cases e
theorem step_size {C : List C1} {s : Tr} {k : Kd} {r : Str} (h : tb 4 (plugs C s)) (hx : (plugs C s).size ≤ 40) : (plugs C (mkS r s k)).size ≤ 300 := by
  obtain ⟨rest, h1, h2⟩ := flat_plugs C s
  have h3 := congrArg List.length (h1 (mkS r s k))
  rw [Tr.flat_len, List.length_append, List.length_append, Tr.flat_len, List.length_take, Tr.flat_len] at h3
  have := mk_size (x := offs C + rest.length) (r := r) (k := k) (tb_sub C h) (by omega)
  omega
/-! ## kinds that are told stay kinds -/
def okT : Tr → Prop
  | .name _ => True
  | .told n => n ≤ 1000000
  | .fn A b => A.ok = true ∧ okT b
  | .call f a => okT f ∧ okT a
  | .both a b => okT a ∧ okT b
  | .first p => okT p
  | .second p => okT p
  | .left B a => B.ok = true ∧ okT a
  | .right B a => B.ok = true ∧ okT a
  | .which s l r => okT s ∧ okT l ∧ okT r
  | .next n => okT n
  | .turns A n u s => A.ok = true ∧ okT n ∧ okT u ∧ okT s
  | .lt a b => okT a ∧ okT b
theorem okT_lift {m : Nat} (t : Tr) : ∀ d, okT t → okT (Tr.lift m d t) := by
  induction t with
  | name i => intro d _; simp only [Tr.lift]; split <;> trivial
  | told i => exact fun _ h => h
  | fn A b ih => exact fun d h => ⟨h.1, ih (d + 1) h.2⟩
  | first b ih => exact ih
  | second b ih => exact ih
  | left A b ih => exact fun d h => ⟨h.1, ih _ h.2⟩
  | right A b ih => exact fun d h => ⟨h.1, ih _ h.2⟩
  | next b ih => exact ih
  | call f a ih1 ih2 => exact fun d ⟨a, b⟩ => ⟨ih1 d a, ih2 d b⟩
  | both f a ih1 ih2 => exact fun d ⟨a, b⟩ => ⟨ih1 d a, ih2 d b⟩
  | lt f a ih1 ih2 => exact fun d ⟨a, b⟩ => ⟨ih1 d a, ih2 _ b⟩
  | which s u v ih1 ih2 ih3 => exact fun d ⟨a, b, c⟩ => ⟨ih1 d a, ih2 _ b, ih3 _ c⟩
  | turns A s u v ih1 ih2 ih3 => exact fun d ⟨k, a, b, c⟩ => ⟨k, ih1 d a, ih2 _ b, ih3 _ c⟩
theorem okT_put {o : Tr} (ho : okT o) (t : Tr) : ∀ d, okT t → okT (Tr.put o d t) := by
  induction t with
  | name i => intro d _; simp only [Tr.put]; split; exact okT_lift o _ ho; split <;> trivial
  | told i => exact fun _ h => h
  | fn A b ih => exact fun d h => ⟨h.1, ih (d + 1) h.2⟩
  | first b ih => exact ih
  | second b ih => exact ih
  | left A b ih => exact fun d h => ⟨h.1, ih _ h.2⟩
  | right A b ih => exact fun d h => ⟨h.1, ih _ h.2⟩
  | next b ih => exact ih
  | call f a ih1 ih2 => exact fun d ⟨a, b⟩ => ⟨ih1 d a, ih2 d b⟩
  | both f a ih1 ih2 => exact fun d ⟨a, b⟩ => ⟨ih1 d a, ih2 d b⟩
  | lt f a ih1 ih2 => exact fun d ⟨a, b⟩ => ⟨ih1 d a, ih2 _ b⟩
  | which s u v ih1 ih2 ih3 => exact fun d ⟨a, b, c⟩ => ⟨ih1 d a, ih2 _ b, ih3 _ c⟩
  | turns A s u v ih1 ih2 ih3 => exact fun d ⟨k, a, b, c⟩ => ⟨k, ih1 d a, ih2 _ b, ih3 _ c⟩
theorem okT_made {t t' : Tr} (hm : madeW t = some t') (h : okT t) : okT t' := by
  cases t with
  | call f a => cases f <;> cases hm; exact okT_put h.2 _ _ h.1.2
  | first p => cases p <;> cases hm; exact (show okT _ ∧ okT _ from h).1
  | second p => cases p <;> cases hm; exact (show okT _ ∧ okT _ from h).2
  | which s l r => cases s <;> cases hm; exact okT_put h.1.2 _ _ h.2.1; exact okT_put h.1.2 _ _ h.2.2
  | next q => cases q <;> cases hm; exact Nat.min_le_right _ _
  | turns A n u s =>
    cases n <;> try (cases hm; done)
    rename_i n
    cases hm
    cases n with
    | zero => exact h.2.2.2
    | succ n => exact okT_put (o := .turns A (.told n) u s) (by exact ⟨h.1, Nat.le_of_succ_le h.2.1, h.2.2.1, h.2.2.2⟩) u 0 h.2.2.1
  | lt a b => cases hm; exact okT_put h.1 _ _ h.2
  | name i => cases hm
  | told i => cases hm
  | fn A b => cases hm
  | both a b => cases hm
  | left B a => cases hm
  | right B a => cases hm
theorem okk_fn {a b : Kd} (h : (Kd.fn a b).ok = true) : a.ok = true ∧ b.ok = true := by
  unfold Kd.ok at h ⊢
  simp only [Kd.lets, Kd.signs, Kd.deep, Bool.and_eq_true, decide_eq_true_eq] at h ⊢
  obtain ⟨⟨⟨l1, l2⟩, h1⟩, h2⟩ := h
  have h1 := of_decide_eq_true h1
  have h2 := of_decide_eq_true h2
  exact ⟨⟨⟨l1, by omega⟩, by omega⟩, ⟨⟨l2, by omega⟩, by omega⟩⟩
theorem okk_pr {a b : Kd} (h : (Kd.pr a b).ok = true) : a.ok = true ∧ b.ok = true := by
  unfold Kd.ok at h ⊢
  simp only [Kd.lets, Kd.signs, Kd.deep, Bool.and_eq_true, decide_eq_true_eq] at h ⊢
  obtain ⟨⟨⟨l1, l2⟩, h1⟩, h2⟩ := h
  have h1 := of_decide_eq_true h1
  have h2 := of_decide_eq_true h2
  exact ⟨⟨⟨l1, by omega⟩, by omega⟩, ⟨⟨l2, by omega⟩, by omega⟩⟩
theorem okk_sm {a b : Kd} (h : (Kd.sm a b).ok = true) : a.ok = true ∧ b.ok = true := by
  unfold Kd.ok at h ⊢
  simp only [Kd.lets, Kd.signs, Kd.deep, Bool.and_eq_true, decide_eq_true_eq] at h ⊢
  obtain ⟨⟨⟨l1, l2⟩, h1⟩, h2⟩ := h
  have h1 := of_decide_eq_true h1
  have h2 := of_decide_eq_true h2
  exact ⟨⟨⟨l1, by omega⟩, by omega⟩, ⟨⟨l2, by omega⟩, by omega⟩⟩
theorem cons_ok {A : Kd} {Γ : List Kd} (hA : A.ok = true) (h : ∀ a ∈ Γ, a.ok = true) : ∀ a ∈ A :: Γ, a.ok = true := fun x hx => by
  rcases List.mem_cons.mp hx with rfl | hx
  · exact hA
  · exact h x hx
theorem ty_ok (t : Tr) : ∀ Γ k, ty Γ t = some k → (∀ a ∈ Γ, a.ok = true) → okT t → k.ok = true := by
  induction t with
  | name i => intro Γ k h hΓ hn; exact hΓ k (List.mem_of_getElem? h)
  | told i => intro Γ k h hΓ hn; cases h; decide
  | fn A b ih => intro Γ k h hΓ hn; obtain ⟨kb, _, h⟩ := bnd h; obtain ⟨b', e, rfl, ho⟩ := kb_fn h; exact ho
  | call f a ih1 ih2 => intro Γ k h hΓ hn; obtain ⟨kf, h1, h⟩ := bnd h; obtain ⟨ka, h2, h⟩ := bnd h; obtain ⟨a', e⟩ := kb_call h; cases e; exact (okk_fn (ih1 Γ _ h1 hΓ hn.1)).2
  | both a b ih1 ih2 => intro Γ k h hΓ hn; obtain ⟨ka, _, h⟩ := bnd h; obtain ⟨kb, _, h⟩ := bnd h; obtain ⟨_, _, _, rfl, ho⟩ := kb_both h; exact ho
  | first q ih => intro Γ k h hΓ hn; obtain ⟨kq, h1, h⟩ := bnd h; obtain ⟨b', e⟩ := kb_first h; cases e; exact (okk_pr (ih Γ _ h1 hΓ hn)).1
  | second q ih => intro Γ k h hΓ hn; obtain ⟨kq, h1, h⟩ := bnd h; obtain ⟨b', e⟩ := kb_second h; cases e; exact (okk_pr (ih Γ _ h1 hΓ hn)).2
  | left B a ih => intro Γ k h hΓ hn; obtain ⟨ka, _, h⟩ := bnd h; obtain ⟨_, _, rfl, ho⟩ := kb_left h; exact ho
  | right A a ih => intro Γ k h hΓ hn; obtain ⟨ka, _, h⟩ := bnd h; obtain ⟨_, _, rfl, ho⟩ := kb_right h; exact ho
  | which s l r ih1 ih2 ih3 => intro Γ k h hΓ hn; obtain ⟨a, b, hs, hl, hr⟩ := tyWhich h; exact ih2 _ _ hl (cons_ok (okk_sm (ih1 Γ _ hs hΓ hn.1)).1 hΓ) hn.2.1
  | next q ih => intro Γ k h hΓ hn; obtain ⟨kq, _, h⟩ := bnd h; obtain ⟨_, rfl⟩ := kb_next h; decide
  | turns A n u s ih1 ih2 ih3 => intro Γ k h hΓ hn; obtain ⟨k1, _, h⟩ := bnd h; obtain ⟨k2, _, h⟩ := bnd h; obtain ⟨k3, h3, h⟩ := bnd h; obtain ⟨e, rfl⟩ := kb_turns h; exact hn.1
  | lt a b ih1 ih2 => intro Γ k h hΓ hn; obtain ⟨ka, h1, h⟩ := bnd h; obtain ⟨kb, h2, h⟩ := bnd h; obtain ⟨_, e⟩ := kb_lt h; cases e; exact ih2 _ _ h2 (cons_ok (ih1 Γ _ h1 hΓ hn.1) hΓ) hn.2
theorem okT_part {c : C1} {s : Tr} (h : okT (c.plug s)) : okT s := by
  cases c <;> first | exact h | exact h.1 | exact h.2 | exact h.2.1 | exact h.2.2 | exact h.2.2.1 | exact h.2.2.2
theorem okT_plug {c : C1} {s s' : Tr} (h : okT (c.plug s)) (h' : okT s') : okT (c.plug s') := by
  cases c with
  | fn A => exact ⟨h.1, h'⟩
  | left A => exact ⟨h.1, h'⟩
  | right A => exact ⟨h.1, h'⟩
  | first => exact h'
  | second => exact h'
  | next => exact h'
  | callL a => exact ⟨h', h.2⟩
  | callR a => exact ⟨h.1, h'⟩
  | bothL a => exact ⟨h', h.2⟩
  | bothR a => exact ⟨h.1, h'⟩
  | ltA a => exact ⟨h', h.2⟩
  | ltB a => exact ⟨h.1, h'⟩
  | whS l r => exact ⟨h', h.2⟩
  | whL l r => exact ⟨h.1, h', h.2.2⟩
  | whR l r => exact ⟨h.1, h.2.1, h'⟩
  | tuN A u s => exact ⟨h.1, h', h.2.2⟩
  | tuU A u s => exact ⟨h.1, h.2.1, h', h.2.2.2⟩
  | tuS A u s => exact ⟨h.1, h.2.1, h.2.2.1, h'⟩
theorem env_ok {c : C1} {s : Tr} {Γ : List Kd} {k : Kd} (h : ty Γ (c.plug s) = some k) (ho : okT (c.plug s)) (hΓ : ∀ a ∈ Γ, a.ok = true) : ∀ a ∈ c.env Γ, a.ok = true := by
  cases c with
  | fn A => exact cons_ok ho.1 hΓ
  | tuU A u s => exact cons_ok ho.1 hΓ
  | whL s0 r => obtain ⟨a, b, hs, hl, hr⟩ := tyWhich h; refine cons_ok ?_ hΓ; rw [kOf_eq hs]; exact (okk_sm (ty_ok s0 Γ _ hs hΓ ho.1)).1
  | whR s0 r => obtain ⟨a, b, hs, hl, hr⟩ := tyWhich h; refine cons_ok ?_ hΓ; rw [kOf_eq hs]; exact (okk_sm (ty_ok s0 Γ _ hs hΓ ho.1)).2
  | ltB a => obtain ⟨ka, h1, h⟩ := bnd h; refine cons_ok ?_ hΓ; rw [kOf_eq h1]; exact ty_ok a Γ _ h1 hΓ ho.1
  | _ => exact hΓ
theorem sub_ok : ∀ (C : List C1) {s : Tr} {Γ : List Kd} {k : Kd}, ty Γ (plugs C s) = some k → okT (plugs C s) → (∀ a ∈ Γ, a.ok = true) → ∃ k', ty (envs Γ C) s = some k' ∧ k'.ok = true ∧ okT s
  | [], s, Γ, k, h, ho, hΓ => ⟨k, h, ty_ok s Γ k h hΓ ho, ho⟩
  | c :: C, s, Γ, k, h, ho, hΓ => by obtain ⟨k', h1⟩ := C1.ty_part h; exact sub_ok C h1 (okT_part ho) (env_ok h ho hΓ)
theorem okT_plugs : ∀ (C : List C1) {s s' : Tr}, okT (plugs C s) → okT s' → okT (plugs C s')
  | [], s, s', h, h' => h'
  | c :: C, s, s', h, h' => okT_plug h (okT_plugs C (okT_part h) h')
theorem okT_mk {t : Tr} {k : Kd} {r : Str} (h : okT t) (hk : k.ok = true) : okT (mkS r t k) := by
  unfold mkS
  split
  · cases k with
    | fn A B => exact ⟨(okk_fn hk).1, okT_lift t 0 h, trivial⟩
    | _ => exact ⟨h, h⟩
  · cases e : madeW t with
    | none => exact h
    | some t' => exact okT_made e h
/-- the names of a tree that has a kind -/
theorem name_lt (t : Tr) : ∀ Γ k, ty Γ t = some k → ∀ i, .name i ∈ t.flat → i + 1 ≤ Γ.length + t.size := by
  induction t with
  | name i =>
    intro Γ k h j hj
    have e := List.mem_singleton.mp hj
    cases e
    have := (List.getElem?_eq_some_iff.mp h).1
    simp only [Tr.size]; omega
  | told i => intro Γ k h j hj; cases List.mem_singleton.mp hj
  | fn A b ih => intro Γ k h j hj; obtain ⟨kb, h1, _⟩ := bnd h; rcases List.mem_cons.mp hj with e | hj; cases e; have := ih _ _ h1 j hj; simp only [Tr.size, List.length_cons] at this ⊢; omega
  | first b ih => intro Γ k h j hj; obtain ⟨kb, h1, _⟩ := bnd h; rcases List.mem_cons.mp hj with e | hj; cases e; have := ih _ _ h1 j hj; simp only [Tr.size] at this ⊢; omega
  | second b ih => intro Γ k h j hj; obtain ⟨kb, h1, _⟩ := bnd h; rcases List.mem_cons.mp hj with e | hj; cases e; have := ih _ _ h1 j hj; simp only [Tr.size] at this ⊢; omega
  | left A b ih => intro Γ k h j hj; obtain ⟨kb, h1, _⟩ := bnd h; rcases List.mem_cons.mp hj with e | hj; cases e; have := ih _ _ h1 j hj; simp only [Tr.size] at this ⊢; omega
  | right A b ih => intro Γ k h j hj; obtain ⟨kb, h1, _⟩ := bnd h; rcases List.mem_cons.mp hj with e | hj; cases e; have := ih _ _ h1 j hj; simp only [Tr.size] at this ⊢; omega
  | next b ih => intro Γ k h j hj; obtain ⟨kb, h1, _⟩ := bnd h; rcases List.mem_cons.mp hj with e | hj; cases e; have := ih _ _ h1 j hj; simp only [Tr.size] at this ⊢; omega
  | call f a ih1 ih2 =>
    intro Γ k h j hj
    obtain ⟨kf, h1, h⟩ := bnd h
    obtain ⟨ka, h2, h⟩ := bnd h
    rcases List.mem_cons.mp hj with e | hj
    · cases e
    rcases List.mem_append.mp hj with hj | hj
    · have := ih1 _ _ h1 j hj; simp only [Tr.size]; omega
    · have := ih2 _ _ h2 j hj; simp only [Tr.size]; omega
  | both f a ih1 ih2 =>
    intro Γ k h j hj
    obtain ⟨kf, h1, h⟩ := bnd h
    obtain ⟨ka, h2, h⟩ := bnd h
    rcases List.mem_cons.mp hj with e | hj
    · cases e
    rcases List.mem_append.mp hj with hj | hj
    · have := ih1 _ _ h1 j hj; simp only [Tr.size]; omega
    · have := ih2 _ _ h2 j hj; simp only [Tr.size]; omega
  | lt f a ih1 ih2 =>
    intro Γ k h j hj
    obtain ⟨kf, h1, h⟩ := bnd h
    obtain ⟨ka, h2, h⟩ := bnd h
    rcases List.mem_cons.mp hj with e | hj
    · cases e
    rcases List.mem_append.mp hj with hj | hj
    · have := ih1 _ _ h1 j hj; simp only [Tr.size]; omega
    · have := ih2 _ _ h2 j hj; have := size_pos f; simp only [Tr.size, List.length_cons] at this ⊢; simp only [List.length_cons] at *; omega
  | which s u v ih1 ih2 ih3 =>
    intro Γ k h j hj
    obtain ⟨a, b, h1, h2, h3⟩ := tyWhich h
    rcases List.mem_cons.mp hj with e | hj
    · cases e
    rcases List.mem_append.mp hj with hj | hj
    · have := ih1 _ _ h1 j hj; simp only [Tr.size]; omega
    rcases List.mem_append.mp hj with hj | hj
    · have := ih2 _ _ h2 j hj; simp only [Tr.size]; simp only [List.length_cons] at this; omega
    · have := ih3 _ _ h3 j hj; simp only [Tr.size]; simp only [List.length_cons] at this; omega
  | turns A s u v ih1 ih2 ih3 =>
    intro Γ k h j hj
    obtain ⟨k1, h1, h⟩ := bnd h
    obtain ⟨k2, h2, h⟩ := bnd h
    obtain ⟨k3, h3, h⟩ := bnd h
    rcases List.mem_cons.mp hj with e | hj
    · cases e
    rcases List.mem_append.mp hj with hj | hj
    · have := ih1 _ _ h1 j hj; simp only [Tr.size]; omega
    rcases List.mem_append.mp hj with hj | hj
    · have := ih2 _ _ h2 j hj; simp only [Tr.size]; simp only [List.length_cons] at this; omega
    · have := ih3 _ _ h3 j hj; simp only [Tr.size]; omega
theorem okT_flat (t : Tr) : okT t → (∀ i, .name i ∈ t.flat → i ≤ 299) → ∀ n ∈ t.flat, n.ok = true := by
  induction t with
  | name i => intro _ h n hn; rw [List.mem_singleton.mp hn]; exact decide_eq_true (h i (List.mem_singleton.mpr rfl))
  | told i => intro h _ n hn; rw [List.mem_singleton.mp hn]; exact decide_eq_true h
  | fn A b ih => intro o h n hn; rcases List.mem_cons.mp hn with rfl | hn; exact o.1; exact ih o.2 (fun i hi => h i (List.mem_cons_of_mem _ hi)) n hn
  | left A b ih => intro o h n hn; rcases List.mem_cons.mp hn with rfl | hn; exact o.1; exact ih o.2 (fun i hi => h i (List.mem_cons_of_mem _ hi)) n hn
  | right A b ih => intro o h n hn; rcases List.mem_cons.mp hn with rfl | hn; exact o.1; exact ih o.2 (fun i hi => h i (List.mem_cons_of_mem _ hi)) n hn
  | first b ih => intro o h n hn; rcases List.mem_cons.mp hn with rfl | hn; rfl; exact ih o (fun i hi => h i (List.mem_cons_of_mem _ hi)) n hn
  | second b ih => intro o h n hn; rcases List.mem_cons.mp hn with rfl | hn; rfl; exact ih o (fun i hi => h i (List.mem_cons_of_mem _ hi)) n hn
  | next b ih => intro o h n hn; rcases List.mem_cons.mp hn with rfl | hn; rfl; exact ih o (fun i hi => h i (List.mem_cons_of_mem _ hi)) n hn
  | call f a ih1 ih2 =>
    intro o h n hn
    rcases List.mem_cons.mp hn with rfl | hn
    · rfl
    rcases List.mem_append.mp hn with hn | hn
    · exact ih1 o.1 (fun i hi => h i (List.mem_cons_of_mem _ (List.mem_append_left _ hi))) n hn
    · exact ih2 o.2 (fun i hi => h i (List.mem_cons_of_mem _ (List.mem_append_right _ hi))) n hn
  | both f a ih1 ih2 =>
    intro o h n hn
    rcases List.mem_cons.mp hn with rfl | hn
    · rfl
    rcases List.mem_append.mp hn with hn | hn
    · exact ih1 o.1 (fun i hi => h i (List.mem_cons_of_mem _ (List.mem_append_left _ hi))) n hn
    · exact ih2 o.2 (fun i hi => h i (List.mem_cons_of_mem _ (List.mem_append_right _ hi))) n hn
  | lt f a ih1 ih2 =>
    intro o h n hn
    rcases List.mem_cons.mp hn with rfl | hn
    · rfl
    rcases List.mem_append.mp hn with hn | hn
    · exact ih1 o.1 (fun i hi => h i (List.mem_cons_of_mem _ (List.mem_append_left _ hi))) n hn
    · exact ih2 o.2 (fun i hi => h i (List.mem_cons_of_mem _ (List.mem_append_right _ hi))) n hn
  | which s u v ih1 ih2 ih3 =>
    intro o h n hn
    rcases List.mem_cons.mp hn with rfl | hn
    · rfl
    rcases List.mem_append.mp hn with hn | hn
    · exact ih1 o.1 (fun i hi => h i (List.mem_cons_of_mem _ (List.mem_append_left _ hi))) n hn
    rcases List.mem_append.mp hn with hn | hn
    · exact ih2 o.2.1 (fun i hi => h i (List.mem_cons_of_mem _ (List.mem_append_right _ (List.mem_append_left _ hi)))) n hn
    · exact ih3 o.2.2 (fun i hi => h i (List.mem_cons_of_mem _ (List.mem_append_right _ (List.mem_append_right _ hi)))) n hn
  | turns A s u v ih1 ih2 ih3 =>
    intro o h n hn
    rcases List.mem_cons.mp hn with rfl | hn
    · exact o.1
    rcases List.mem_append.mp hn with hn | hn
    · exact ih1 o.2.1 (fun i hi => h i (List.mem_cons_of_mem _ (List.mem_append_left _ hi))) n hn
    rcases List.mem_append.mp hn with hn | hn
    · exact ih2 o.2.2.1 (fun i hi => h i (List.mem_cons_of_mem _ (List.mem_append_right _ (List.mem_append_left _ hi)))) n hn
    · exact ih3 o.2.2.2 (fun i hi => h i (List.mem_cons_of_mem _ (List.mem_append_right _ (List.mem_append_right _ hi)))) n hn
/-- what is told of the tree that is stepped on -/
structure Good (c : Nat) (k : Kd) (t : Tr) : Prop where
  kind : ty [] t = some k
  ok : okT t
  tb : tb c t
  most : t.size ≤ 300
theorem Good.nodes {c : Nat} {k : Kd} {t : Tr} (g : Good c k t) : ∀ n ∈ t.flat, n.ok = true := okT_flat t g.ok fun i hi => by
  have := name_lt t [] k g.kind i hi
  have := g.most
  simp at *; omega
/-- a step -/
theorem Good.step {c : Nat} {k : Kd} {t : Tr} (g : Good c k t) (hc : c ≤ 4) (hs : t.size ≤ 40) {q : Nat} {r : Str} (hm : (q, r) ∈ looks [] 0 false t) :
    ∃ C s, t = plugs C s ∧ q = offs C ∧ r ∈ rulesT (envs [] C) (helds false C) s ∧ stepT [] 0 q r t = plugs C (mkS r s (kOf (envs [] C) s)) ∧ Good (c + 1) k (stepT [] 0 q r t) ∧ ev (stepT [] 0 q r t) [] = ev t [] := by
  obtain ⟨C, s, rfl, rfl, hr⟩ := looks_ctx t _ _ _ _ _ hm
  rw [Nat.zero_add]
  have e : stepT [] 0 (offs C) r (plugs C s) = plugs C (mkS r s (kOf (envs [] C) s)) := by
    have z := stepT_plugs C (s := s) (Γ := []) (p := 0) (r := r)
    rw [Nat.zero_add] at z
    exact z
  obtain ⟨k', h1, h2, h3⟩ := sub_ok C g.kind g.ok (fun a ha => by cases ha)
  have ht := mk_ty hr h1 h2
  refine ⟨C, s, rfl, rfl, hr, e, ?_, ?_⟩
  · rw [e]
    refine ⟨ty_plugs C g.kind (ht.trans h1.symm), okT_plugs C g.ok (okT_mk h3 (by rw [kOf_eq h1]; exact h2)), tb_step C g.tb hr, step_size (tb_mono hc _ g.tb) hs⟩
  · rw [e]
    refine ev_plugs (η := []) C g.kind (ht.trans h1.symm) fun η' hη => ?_
    have hη : ks η' = envs [] C := hη
    rw [← hη]
    rw [← hη] at hr h1
    exact mk_ev hr h1
end K32

set_option maxRecDepth 100000
set_option maxHeartbeats 4000000
namespace K32
open PySem L2
theorem Iter.congr {X : Cx} {O : Og} {M : Owns} {ρ : List Lo} {tg iter : Expr} {n : Nat} {item item' : Nat → PyData} (h : Iter X O M ρ tg iter n item) (q : ∀ i, i < n → item i = item' i) : Iter X O M ρ tg iter n item' := by
  obtain ⟨wi, h1, h2⟩ := h
  refine ⟨wi, h1, fun B σ H S R k => h2 B σ H S R fun J B' H' G Y e1 S1 W hG hY => k J B' H' G Y e1 S1 W hG fun i H1 x H2 hi hy B1 g1 g2 => ?_⟩
  obtain ⟨B2, n2, r⟩ := hY i H1 x H2 hi hy B1 g1 g2
  exact ⟨B2, n2, q i hi ▸ r⟩
theorem encT_len (ts : List Tr) : (ts.map Tr.enc).length = ts.length := List.length_map _
/-- the parts of a tree, each with the binders more around it -/
def Tr.kids (t : Tr) : List (Tr × Nat) := t.parts.zip t.node.binds
theorem kids_len (t : Tr) : t.kids.length = t.node.binds.length := by unfold Tr.kids; rw [List.length_zip, t.parts_len, Nat.min_self]
def kidD (p : Tr × Nat) : PyData := .tuple [p.1.enc, .int p.2]
theorem kids_zip (t : Tr) : ((t.parts.map Tr.enc).zip (intsD t.node.binds)).map (fun p => PyData.tuple [p.1, p.2]) = t.kids.map kidD := by
  unfold Tr.kids intsD
  rw [List.zip_map, List.map_map]
  rfl
theorem kid_deep {t : Tr} {p : Tr × Nat} (h : p ∈ t.kids) : p.1.deep + 1 ≤ t.deep := deep_part (List.of_mem_zip h).1
theorem lift_enc {m : Nat} {t : Tr} (h : ∀ i, t ≠ .name i) (d : Nat) : (Tr.lift m d t).enc = .tuple [t.node.enc, .list (t.kids.map fun p => (Tr.lift m (d + p.2) p.1).enc)] := by
  cases t <;> first | rfl | exact absurd rfl (h _)
theorem put_enc {o : Tr} {t : Tr} (h : ∀ i, t ≠ .name i) (d : Nat) : (Tr.put o d t).enc = .tuple [t.node.enc, .list (t.kids.map fun p => (Tr.put o (d + p.2) p.1).enc)] := by
  cases t <;> first | rfl | exact absurd rfl (h _)
theorem enc_two (t : Tr) : t.enc = .tuple [t.node.enc, .list (t.parts.map Tr.enc)] := t.enc_eq
theorem word_name {t : Tr} (h : ∀ i, t ≠ .name i) : t.node.word ≠ "name" := by cases t <;> first | exact absurd rfl (h _) | (simp only [Tr.node, Nd.word]; decide)
theorem range_kids {f : Tr × Nat → Lo} {L : List (Tr × Nat)} : (List.range L.length).map (fun k => f (L.getD k (.name 0, 0))) = L.map f := by
  apply List.ext_getElem
  · simp
  · intro i h1 h2
    simp at h1 h2
    simp [List.getD_eq_getElem?_getD, h1]
section
variable {P : Program} {w : World} {K : PySem.W.Frag} {mg : Str → Option Value} {base : Heap}
theorem ed_zip {X : Cx} {O : Og} {M : Owns} {ρ : List Lo} {a b : Expr} {pos pos2 p p2 : Pos} {k : Nat} (T : Tx X.w X.K X.mg) (hc : X.calm = true) {t : Tr} (F : Def X.prog X.w X.K X.mg X.base CX0 "_law_binds" k ["_law_word"] (spR X.K R_lbinds)) (hr : Room k X.A) (ha : Ed X O M ρ a (.d (.list (t.parts.map Tr.enc)))) (hb : Ed X O M ρ b (.d (.str t.node.word)))
    {p3 pos3 : Pos} (hg1 : Gl X "list" := by rfl) (hg2 : Gl X "zip" := by rfl) (hg3 : Gl X "_law_binds" := by rfl)
    (hs1 : starEach [.Call (.Name "zip" p2) [a, .Call (.Name "_law_binds" p3) [b] [] pos3] [] pos2] X.env = (false, eval (.Call (.Name "zip" p2) [a, .Call (.Name "_law_binds" p3) [b] [] pos3] [] pos2) X.env) :: starEach [] X.env := by rfl)
    (hs2 : starEach [a, .Call (.Name "_law_binds" p3) [b] [] pos3] X.env = (false, eval a X.env) :: starEach [.Call (.Name "_law_binds" p3) [b] [] pos3] X.env := by rfl)
    (hs3 : starEach [.Call (.Name "_law_binds" p3) [b] [] pos3] X.env = (false, eval (.Call (.Name "_law_binds" p3) [b] [] pos3) X.env) :: starEach [] X.env := by rfl) (hpl : (backTo pos2 (starEach [.Call (.Name "_law_binds" p3) [b] [] pos3] X.env)).any (·.1) = false := by rfl)
    (hs4 : starEach [b] X.env = (false, eval b X.env) :: starEach [] X.env := by rfl) (hpl2 : (backTo pos3 (starEach [] X.env)).any (·.1) = false := by rfl) :
    Ed X O M ρ (.Call (.Name "list" p) [.Call (.Name "zip" p2) [a, .Call (.Name "_law_binds" p3) [b] [] pos3] [] pos2] [] pos) (.d (.list (t.kids.map kidD))) := by
  have z := El.ed (el_listZip (p := p) (pos := pos) (pos2 := pos2) (p2 := p2) hc (b_list T) (b_zip T) ha (ed_callR (pos := pos3) (p1 := p3) (ds := [.str t.node.word]) F hr (ea_cons hb ea_nil hs4) ⟨t.node, rfl, rfl⟩ hg3 (by decide) hs4 hpl2) (by rw [encT_len, intsD_len, t.parts_len]) hg1 hg2 hs1 hs2 hs3 hpl)
  rw [kids_zip] at z
  exact z
def R_llift (n : Nat) : List PyData → PyData → Prop := fun ds d => ∃ (t : Tr) (m k : Nat), ds = [t.enc, .int m, .int k] ∧ t.deep ≤ n ∧ d = (Tr.lift m k t).enc
theorem d_llift (T : Tx w K mg) : ∀ n, Def P w K mg base CX0 "_law_lifted" (n + 2) ["_law_tree_here", "_law_many", "_law_around_here"] (spR K (R_llift n)) := by
  intro n
  induction n with
  | zero =>
    refine def_R (f__law_lifted T) (g__law_lifted T) sc__law_lifted (fun _ _ _ _ _ _ us hl => match us, hl with | [_, _, _], _ => rfl) (fun ds d h => by obtain ⟨t, m, k, rfl, _⟩ := h; rfl) fun cdv A outer s H E hr ds d h O D hD hq => ?_
    obtain ⟨t, m, k, rfl, h, _⟩ := h
    cases t <;> simp only [Tr.deep] at h <;> omega
  | succ n ih =>
    refine def_R (f__law_lifted T) (g__law_lifted T) sc__law_lifted (fun _ _ _ _ _ _ us hl => match us, hl with | [_, _, _], _ => rfl) (fun ds d h => by obtain ⟨t, m, k, rfl, _⟩ := h; rfl) fun cdv A outer s H E hr ds d h O D hD hq => ?_
    obtain ⟨t, m, k, rfl, hd, rfl⟩ := h
    refine go_tup (ed_is (ed_v 0) (congrArg Lo.d t.enc_eq)) (pg_tup rfl (pgs_cons (pg_name (i := 3) sc__law_lifted.nd rfl (.inl rfl)) (pgs_cons (pg_name (i := 4) sc__law_lifted.nd rfl (.inl rfl)) pgs_nil))) (tg_two 3 4) ?_
    by_cases hn : ∃ i, t = .name i
    · obtain ⟨i, rfl⟩ := hn
      refine go_take (et_b (et_eqS (ed_word (n := .name i) (ed_v 3)) ed_str) rfl) ?_
      by_cases c : k ≤ i
      · refine go_ret (ed_is (ed_ifT (et_ge (ed_ixT (ds := [.str "name", .int i]) (ed_v 3) ed_int) (ed_v 2)) (decide_eq_true (by omega)) (ed_tup (ds := [.tuple [.str "name", .int ((i : Int) + (m : Int))], .list []]) (ea_cons (ed_tup (ds := [.str "name", .int ((i : Int) + (m : Int))]) (ea_cons ed_str (ea_cons (ed_add (ed_ixT (ds := [.str "name", .int i]) (ed_v 3) ed_int) (ed_v 1)) ea_nil))) (ea_cons (ed_lst (ds := []) ea_nil) ea_nil)))) ?_) hq
        unfold Tr.lift
        rw [if_pos c]
        rfl
      · refine go_ret (ed_is (ed_ifF (et_ge (ed_ixT (ds := [.str "name", .int i]) (ed_v 3) ed_int) (ed_v 2)) (decide_eq_false (by omega)) (ed_v 0)) ?_) hq
        unfold Tr.lift
        rw [if_neg c]
    · have hn : ∀ i, t ≠ .name i := fun i e => hn ⟨i, e⟩
      refine go_skip (et_b (et_eqS (ed_word (ed_v 3)) ed_str) (decide_eq_false (word_name hn))) ?_
      refine go_asg 5 sc__law_lifted.nd (ed_zip T rfl ((d__law_binds T).up (by omega)) hr (ed_v 4) (ed_word (ed_v 3))) ?_
      refine go_ret (ed_is (ed_tup (ds := [t.node.enc, .list (t.kids.map fun p => (Tr.lift m (k + p.2) p.1).enc)]) (ea_cons (ed_v 3) (ea_cons (El.ed (El.is (el_lc2 6 7 (di := fun j => (t.kids.getD j (.name 0, 0)).1.enc) (dj := fun j => .int ((t.kids.getD j (.name 0, 0)).2 : Nat)) (ls := fun j => .d (Tr.lift m (k + (t.kids.getD j (.name 0, 0)).2) (t.kids.getD j (.name 0, 0)).1).enc) (by decide) rfl sc__law_lifted.nd
        (Iter.congr (it_list (ed_v 5)) fun j hj => ?_) (blkOk_by (N := N__law_lifted) (sc := defScope sL_lifted) (own := [("_law_part", 6), ("_law_more", 7)]) (by decide +kernel)) (fun _ _ _ _ _ => pg_tup rfl (pgs_cons (pg_name (i := 6) sc__law_lifted.nd rfl (.inl rfl)) (pgs_cons (pg_name (i := 7) sc__law_lifted.nd rfl (.inl rfl)) pgs_nil)))
        (by rw [List.length_map, kids_len]; cases t <;> simp [Tr.node, Nd.binds]) fun L p w' j hj s' H' C' cl fp => ?_) ?_)) ea_nil))) (congrArg Lo.d (lift_enc hn k).symm)) hq
      · rw [List.length_map] at hj
        rw [List.getD_eq_getElem?_getD, List.getElem?_map, List.getElem?_eq_getElem hj, List.getD_eq_getElem?_getD, List.getElem?_eq_getElem hj]
        rfl
      · rw [List.length_map] at hj
        have hm : t.kids.getD j (.name 0, 0) ∈ t.kids := by rw [List.getD_eq_getElem?_getD, List.getElem?_eq_getElem hj]; exact List.getElem_mem hj
        have hdk := kid_deep hm
        exact ed_callR (ds := [(t.kids.getD j (.name 0, 0)).1.enc, .int m, .int ((k : Int) + ((t.kids.getD j (.name 0, 0)).2 : Nat))]) ih hr (ea_cons (ed_v 6) (ea_cons (ed_v 1) (ea_cons (ed_add (ed_v 2) (ed_v 7)) ea_nil))) ⟨_, m, _, rfl, by omega, rfl⟩
      · rw [List.length_map, range_kids (f := fun p => .d (Tr.lift m (k + p.2) p.1).enc), List.map_map]
        rfl
end
end K32

set_option maxRecDepth 100000
set_option maxHeartbeats 4000000
namespace K32
open PySem L2
section
variable {P : Program} {w : World} {K : PySem.W.Frag} {mg : Str → Option Value} {base : Heap}
def R_lput (n : Nat) : List PyData → PyData → Prop := fun ds d => ∃ (t o : Tr) (k : Nat), ds = [t.enc, o.enc, .int k] ∧ t.deep ≤ n ∧ o.deep ≤ 60 ∧ d = (Tr.put o k t).enc
theorem d_lput (T : Tx w K mg) : ∀ n, Def P w K mg base CX0 "_law_put" (n + 63) ["_law_tree_here", "_law_other", "_law_around_here"] (spR K (R_lput n)) := by
  intro n
  induction n with
  | zero =>
    refine def_R (f__law_put T) (g__law_put T) sc__law_put (fun _ _ _ _ _ _ us hl => match us, hl with | [_, _, _], _ => rfl) (fun ds d h => by obtain ⟨t, m, k, rfl, _⟩ := h; rfl) fun cdv A outer s H E hr ds d h O D hD hq => ?_
    obtain ⟨t, m, k, rfl, h, _⟩ := h
    cases t <;> simp only [Tr.deep] at h <;> omega
  | succ n ih =>
    refine def_R (f__law_put T) (g__law_put T) sc__law_put (fun _ _ _ _ _ _ us hl => match us, hl with | [_, _, _], _ => rfl) (fun ds d h => by obtain ⟨t, m, k, rfl, _⟩ := h; rfl) fun cdv A outer s H E hr ds d h O D hD hq => ?_
    obtain ⟨t, o, k, rfl, hd, ho, rfl⟩ := h
    refine go_tup (ed_is (ed_v 0) (congrArg Lo.d t.enc_eq)) (pg_tup rfl (pgs_cons (pg_name (i := 3) sc__law_put.nd rfl (.inl rfl)) (pgs_cons (pg_name (i := 4) sc__law_put.nd rfl (.inl rfl)) pgs_nil))) (tg_two 3 4) ?_
    by_cases hn : ∃ i, t = .name i
    · obtain ⟨i, rfl⟩ := hn
      refine go_take (et_b (et_eqS (ed_word (n := .name i) (ed_v 3)) ed_str) rfl) ?_
      by_cases c : i = k
      · subst c
        refine go_take (et_b (et_eqI (ed_ixT (ds := [.str "name", .int i]) (ed_v 3) ed_int) (ed_v 2)) (decide_eq_true rfl)) ?_
        refine go_ret (ed_is (ed_callR (ds := [o.enc, .int i, .int (0 : Nat)]) ((d_llift T 60).up (by omega)) hr (ea_cons (ed_v 1) (ea_cons (ed_v 2) (ea_cons ed_int ea_nil))) ⟨o, i, 0, rfl, ho, rfl⟩) ?_) hq
        unfold Tr.put
        rw [if_pos rfl]
      · refine go_skip (et_b (et_eqI (ed_ixT (ds := [.str "name", .int i]) (ed_v 3) ed_int) (ed_v 2)) (decide_eq_false (by omega))) ?_
        by_cases c2 : k < i
        · refine go_ret (ed_is (ed_ifT (et_gt (ed_ixT (ds := [.str "name", .int i]) (ed_v 3) ed_int) (ed_v 2)) (decide_eq_true (by omega)) (ed_tup (ds := [.tuple [.str "name", .int ((i : Int) - 1)], .list []]) (ea_cons (ed_tup (ds := [.str "name", .int ((i : Int) - 1)]) (ea_cons ed_str (ea_cons (ed_sub (ed_ixT (ds := [.str "name", .int i]) (ed_v 3) ed_int) ed_int) ea_nil))) (ea_cons (ed_lst (ds := []) ea_nil) ea_nil)))) ?_) hq
          unfold Tr.put
          rw [if_neg c, if_pos c2, show ((i : Int) - 1) = ((i - 1 : Nat) : Int) by omega]
          rfl
        · refine go_ret (ed_is (ed_ifF (et_gt (ed_ixT (ds := [.str "name", .int i]) (ed_v 3) ed_int) (ed_v 2)) (decide_eq_false (by omega)) (ed_v 0)) ?_) hq
          unfold Tr.put
          rw [if_neg c, if_neg c2]
    · have hn : ∀ i, t ≠ .name i := fun i e => hn ⟨i, e⟩
      refine go_skip (et_b (et_eqS (ed_word (ed_v 3)) ed_str) (decide_eq_false (word_name hn))) ?_
      refine go_asg 5 sc__law_put.nd (ed_zip T rfl ((d__law_binds T).up (by omega)) hr (ed_v 4) (ed_word (ed_v 3))) ?_
      refine go_ret (ed_is (ed_tup (ds := [t.node.enc, .list (t.kids.map fun p => (Tr.put o (k + p.2) p.1).enc)]) (ea_cons (ed_v 3) (ea_cons (El.ed (El.is (el_lc2 6 7 (di := fun j => (t.kids.getD j (.name 0, 0)).1.enc) (dj := fun j => .int ((t.kids.getD j (.name 0, 0)).2 : Nat)) (ls := fun j => .d (Tr.put o (k + (t.kids.getD j (.name 0, 0)).2) (t.kids.getD j (.name 0, 0)).1).enc) (by decide) rfl sc__law_put.nd
        (Iter.congr (it_list (ed_v 5)) fun j hj => ?_) (blkOk_by (N := N__law_put) (sc := defScope sL_put) (own := [("_law_part", 6), ("_law_more", 7)]) (by decide +kernel)) (fun _ _ _ _ _ => pg_tup rfl (pgs_cons (pg_name (i := 6) sc__law_put.nd rfl (.inl rfl)) (pgs_cons (pg_name (i := 7) sc__law_put.nd rfl (.inl rfl)) pgs_nil)))
        (by rw [List.length_map, kids_len]; cases t <;> simp [Tr.node, Nd.binds]) fun L p w' j hj s' H' C' cl fp => ?_) ?_)) ea_nil))) (congrArg Lo.d (put_enc hn k).symm)) hq
      · rw [List.length_map] at hj
        rw [List.getD_eq_getElem?_getD, List.getElem?_map, List.getElem?_eq_getElem hj, List.getD_eq_getElem?_getD, List.getElem?_eq_getElem hj]
        rfl
      · rw [List.length_map] at hj
        have hm : t.kids.getD j (.name 0, 0) ∈ t.kids := by rw [List.getD_eq_getElem?_getD, List.getElem?_eq_getElem hj]; exact List.getElem_mem hj
        have hdk := kid_deep hm
        exact ed_callR (ds := [(t.kids.getD j (.name 0, 0)).1.enc, o.enc, .int ((k : Int) + ((t.kids.getD j (.name 0, 0)).2 : Nat))]) ih hr (ea_cons (ed_v 6) (ea_cons (ed_v 1) (ea_cons (ed_add (ed_v 2) (ed_v 7)) ea_nil))) ⟨_, o, _, rfl, by omega, ho, rfl⟩
      · rw [List.length_map, range_kids (f := fun p => .d (Tr.put o (k + p.2) p.1).enc), List.map_map]
        rfl
end
end K32

set_option maxRecDepth 100000
set_option maxHeartbeats 4000000
namespace K32
open PySem L2
section
variable {P : Program} {w : World} {K : PySem.W.Frag} {mg : Str → Option Value} {base : Heap}
def KindHere (n : Nd) (ks Γ : List Kd) (k : Kd) : Prop := (∃ i, n = .name i ∧ Γ[i]? = some k) ∨ (∃ i, n = .told i ∧ k = .cnt) ∨ kindBy n ks = some k
def envD (Γ : List Kd) : PyData := .list (Γ.map Kd.enc)
def R_lkind : Owns → List Lo → Post → Prop := fun M ls Po => ∃ (p : Addr) (n : Nd) (ks Γ : List Kd) (k : Kd), M = [(p, .lst (kl ks))] ∧ ls = [.d n.enc, .v (.ref p), .d (envD Γ)] ∧ KindHere n ks Γ k ∧ Po = fun M' l => M' = M ∧ l = .d k.enc
def R_lbound : Owns → List Lo → Post → Prop := fun M ls Po => ∃ (p : Addr) (n : Nd) (ks : List Kd) (k : Kd), M = [(p, .lst (kl ks))] ∧ ls = [.d n.enc, .v (.ref p)] ∧ boundBy n ks = some k ∧ Po = fun M' l => M' = M ∧ l = .d k.enc
theorem d__law_bound (T : Tx w K mg) : Def P w K mg base CX0 "_law_bound" 1 ["_law_node", "_law_some"] (spO K R_lbound) := by
  refine def_O (f__law_bound T) (g__law_bound T) sc__law_bound (fun _ _ _ _ _ _ us hl => match us, hl with | [_, _], _ => rfl) (fun M ls Po h => by obtain ⟨p, n, ks, k, rfl, rfl, hk, rfl⟩ := h; rfl) fun cdv A outer s H E hr M ls Po h O D hD hq => ?_
  obtain ⟨p, n, ks, k, rfl, rfl, hk, rfl⟩ := h
  have hq' : ∀ {P' : Post}, (∀ M' l, P' M' l → M' = [(p, Own.lst (kl ks))] ∧ l = .d k.enc) → RetO K O D P' := fun h => hq.imp fun M' l z => h M' l z
  rcases bb_len hk with ⟨a, b, rfl, rfl, rfl⟩ | ⟨a, b, c, rfl, rfl, rfl⟩ | ⟨rfl, rfl⟩ | ⟨rfl, rfl⟩ | ⟨c, rfl, rfl⟩
  · refine go_take (et_b (et_eqS (ed_word (ed_v 0)) ed_str) rfl) ?_
    exact go_retX (Ed.ex (ed_ixT (ds := [.str "sum", Kd.enc _, b.enc]) (ed_ixO (ed_v 1) (.head _) ed_int kl_sm) (ed_lenO (b_len T) (ed_v 1) (.head _)))) (hq' fun M' l h => h)
  · refine go_take (et_b (et_eqS (ed_word (ed_v 0)) ed_str) rfl) ?_
    exact go_retX (Ed.ex (ed_ixT (ds := [.str "sum", a.enc, Kd.enc _]) (ed_ixO (ed_v 1) (.head _) ed_int kl_sm) (ed_lenO (b_len T) (ed_v 1) (.head _)))) (hq' fun M' l h => h)
  · refine go_skip (et_b (et_eqS (ed_word (ed_v 0)) ed_str) rfl) ?_
    exact go_retX (Ed.ex (ed_ifT (et_eqS (ed_word (ed_v 0)) ed_str) rfl (ed_ixO (ed_v 1) (.head _) ed_int (kl_at (i := 0) rfl)))) (hq' fun M' l h => h)
  · refine go_skip (et_b (et_eqS (ed_word (ed_v 0)) ed_str) rfl) ?_
    exact go_retX (Ed.ex (ed_ifF (et_eqS (ed_word (ed_v 0)) ed_str) rfl (ed_ixT (ds := [.str "fun", k.enc]) (ed_v 0) ed_int))) (hq' fun M' l h => h)
  · refine go_skip (et_b (et_eqS (ed_word (ed_v 0)) ed_str) rfl) ?_
    exact go_retX (Ed.ex (ed_ifF (et_eqS (ed_word (ed_v 0)) ed_str) rfl (ed_ixT (ds := [.str "turns", k.enc]) (ed_v 0) ed_int))) (hq' fun M' l h => h)
theorem d__law_kind (T : Tx w K mg) : Def P w K mg base CX0 "_law_kind" 1 ["_law_node", "_law_some", "_law_env"] (spO K R_lkind) := by
  refine def_O (f__law_kind T) (g__law_kind T) sc__law_kind (fun _ _ _ _ _ _ us hl => match us, hl with | [_, _, _], _ => rfl) (fun M ls Po h => by obtain ⟨p, n, ks, Γ, k, rfl, rfl, hk, rfl⟩ := h; rfl) fun cdv A outer s H E hr M ls Po h O D hD hq => ?_
  obtain ⟨p, n, ks, Γ, k, rfl, rfl, hk, rfl⟩ := h
  have hq' : ∀ {P' : Post}, (∀ M' l, P' M' l → M' = [(p, Own.lst (kl ks))] ∧ l = .d k.enc) → RetO K O D P' := fun h => hq.imp fun M' l z => h M' l z
  refine go_asg 3 sc__law_kind.nd (ed_word (ed_v 0)) ?_
  have t6 : ∀ {X : Cx} {O : Og} {M : Owns} {ρ : List Lo} {q0 q1 q2 q3 q4 q5 pos : Pos} {j0 j1 j2 j3 j4 j5 kt : Nat}, Ed X O M ρ (.Tuple [.Constant (.str "name") j0 q0, .Constant (.str "told") j1 q1, .Constant (.str "next") j2 q2, .Constant (.str "let") j3 q3, .Constant (.str "which") j4 q4, .Constant (.str "turns") j5 q5] kt pos) (.d (.tuple ((["name", "told", "next", "let", "which", "turns"] : List Str).map .str))) := fun {X O M ρ q0 q1 q2 q3 q4 q5 pos j0 j1 j2 j3 j4 j5 kt} => ed_tup (ea_cons ed_str (ea_cons ed_str (ea_cons ed_str (ea_cons ed_str (ea_cons ed_str (ea_cons ed_str ea_nil))))))
  have t3 : ∀ {X : Cx} {O : Og} {M : Owns} {ρ : List Lo} {q0 q1 q2 pos : Pos} {j0 j1 j2 kt : Nat}, Ed X O M ρ (.Tuple [.Constant (.str "name") j0 q0, .Constant (.str "told") j1 q1, .Constant (.str "next") j2 q2] kt pos) (.d (.tuple ((["name", "told", "next"] : List Str).map .str))) := fun {X O M ρ q0 q1 q2 pos j0 j1 j2 kt} => ed_tup (ea_cons ed_str (ea_cons ed_str (ea_cons ed_str ea_nil)))
  have t2 : ∀ {X : Cx} {O : Og} {M : Owns} {ρ : List Lo} {q0 q1 pos : Pos} {j0 j1 kt : Nat}, Ed X O M ρ (.Tuple [.Constant (.str "first") j0 q0, .Constant (.str "second") j1 q1] kt pos) (.d (.tuple ((["first", "second"] : List Str).map .str))) := fun {X O M ρ q0 q1 pos j0 j1 kt} => ed_tup (ea_cons ed_str (ea_cons ed_str ea_nil))
  cases n with
  | name i =>
    have hk : Γ[i]? = some k := by
      rcases hk with ⟨j, e, h⟩ | ⟨j, e, _⟩ | h
      · cases e; exact h
      · cases e
      · cases h
    refine go_take (et_b (et_inS (ed_v 3) t6) (by (try simp only [Nd.word]); decide +kernel)) ?_
    refine go_asg 4 sc__law_kind.nd (ed_ifT (et_eqS (ed_v 3) ed_str) rfl (ed_ixL (ds := Γ.map Kd.enc) (ed_v 2) (ed_ixT (ds := [.str "name", .int i]) (ed_v 0) ed_int) (atI_nat (by rw [List.getElem?_map, hk]; rfl)))) ?_
    exact go_retX (Ed.ex (ed_ifT (et_inS (ed_v 3) t3) (by (try simp only [Nd.word]); decide +kernel) (ed_v 4))) (hq' fun M' l h => h)
  | told i =>
    have hk : k = .cnt := by
      rcases hk with ⟨j, e, h⟩ | ⟨j, e, h⟩ | h
      · cases e
      · exact h
      · cases h
    subst hk
    refine go_take (et_b (et_inS (ed_v 3) t6) (by (try simp only [Nd.word]); decide +kernel)) ?_
    refine go_asg 4 sc__law_kind.nd (ed_ifF (et_eqS (ed_v 3) ed_str) rfl (ed_tup (ds := [.str "count"]) (ea_cons ed_str ea_nil))) ?_
    exact go_retX (Ed.ex (ed_ifT (et_inS (ed_v 3) t3) (by (try simp only [Nd.word]); decide +kernel) (ed_v 4))) (hq' fun M' l h => h)
  | next =>
    have hk : kindBy .next ks = some k := by rcases hk with ⟨j, e, h⟩ | ⟨j, e, h⟩ | h; cases e; cases e; exact h
    obtain ⟨_, rfl⟩ := kb_next hk
    refine go_take (et_b (et_inS (ed_v 3) t6) (by (try simp only [Nd.word]); decide +kernel)) ?_
    refine go_asg 4 sc__law_kind.nd (ed_ifF (et_eqS (ed_v 3) ed_str) rfl (ed_tup (ds := [.str "count"]) (ea_cons ed_str ea_nil))) ?_
    exact go_retX (Ed.ex (ed_ifT (et_inS (ed_v 3) t3) (by (try simp only [Nd.word]); decide +kernel) (ed_v 4))) (hq' fun M' l h => h)
  | lt =>
    have hk : kindBy .lt ks = some k := by rcases hk with ⟨j, e, h⟩ | ⟨j, e, h⟩ | h; cases e; cases e; exact h
    obtain ⟨a, rfl⟩ := kb_lt hk
    refine go_take (et_b (et_inS (ed_v 3) t6) (by (try simp only [Nd.word]); decide +kernel)) ?_
    refine go_asg 4 sc__law_kind.nd (ed_ifF (et_eqS (ed_v 3) ed_str) rfl (ed_tup (ds := [.str "count"]) (ea_cons ed_str ea_nil))) ?_
    exact go_retX (Ed.ex (ed_ifF (et_inS (ed_v 3) t3) (by (try simp only [Nd.word]); decide +kernel) (ed_ifF (et_eqS (ed_v 3) ed_str) rfl (ed_ixO (ed_v 1) (.head _) ed_int (kl_at (i := 1) rfl))))) (hq' fun M' l h => h)
  | which =>
    have hk : kindBy .which ks = some k := by rcases hk with ⟨j, e, h⟩ | ⟨j, e, h⟩ | h; cases e; cases e; exact h
    obtain ⟨a, b, rfl⟩ := kb_which hk
    refine go_take (et_b (et_inS (ed_v 3) t6) (by (try simp only [Nd.word]); decide +kernel)) ?_
    refine go_asg 4 sc__law_kind.nd (ed_ifF (et_eqS (ed_v 3) ed_str) rfl (ed_tup (ds := [.str "count"]) (ea_cons ed_str ea_nil))) ?_
    exact go_retX (Ed.ex (ed_ifF (et_inS (ed_v 3) t3) (by (try simp only [Nd.word]); decide +kernel) (ed_ifF (et_eqS (ed_v 3) ed_str) rfl (ed_ixO (ed_v 1) (.head _) ed_int (kl_at (i := 1) rfl))))) (hq' fun M' l h => h)
  | turns A =>
    have hk : kindBy (.turns A) ks = some k := by rcases hk with ⟨j, e, h⟩ | ⟨j, e, h⟩ | h; cases e; cases e; exact h
    obtain ⟨rfl, rfl⟩ := kb_turns hk
    refine go_take (et_b (et_inS (ed_v 3) t6) (by (try simp only [Nd.word]); decide +kernel)) ?_
    refine go_asg 4 sc__law_kind.nd (ed_ifF (et_eqS (ed_v 3) ed_str) rfl (ed_tup (ds := [.str "count"]) (ea_cons ed_str ea_nil))) ?_
    exact go_retX (Ed.ex (ed_ifF (et_inS (ed_v 3) t3) (by (try simp only [Nd.word]); decide +kernel) (ed_ifT (et_eqS (ed_v 3) ed_str) rfl (ed_ixT (ds := [.str "turns", k.enc]) (ed_v 0) ed_int)))) (hq' fun M' l h => h)
  | first =>
    have hk : kindBy .first ks = some k := by rcases hk with ⟨j, e, h⟩ | ⟨j, e, h⟩ | h; cases e; cases e; exact h
    obtain ⟨b, rfl⟩ := kb_first hk
    refine go_skip (et_b (et_inS (ed_v 3) t6) (by (try simp only [Nd.word]); decide +kernel)) ?_
    refine go_take (et_b (et_inS (ed_v 3) t2) (by (try simp only [Nd.word]); decide +kernel)) ?_
    exact go_retX (Ed.ex (ed_ifT (et_eqS (ed_v 3) ed_str) rfl (ed_ixT (ds := [.str "pair", k.enc, b.enc]) (ed_ixO (ed_v 1) (.head _) ed_int (kl_at (ks := [.pr k b]) (i := 0) (k := .pr k b) rfl)) ed_int))) (hq' fun M' l h => h)
  | second =>
    have hk : kindBy .second ks = some k := by rcases hk with ⟨j, e, h⟩ | ⟨j, e, h⟩ | h; cases e; cases e; exact h
    obtain ⟨b, rfl⟩ := kb_second hk
    refine go_skip (et_b (et_inS (ed_v 3) t6) (by (try simp only [Nd.word]); decide +kernel)) ?_
    refine go_take (et_b (et_inS (ed_v 3) t2) (by (try simp only [Nd.word]); decide +kernel)) ?_
    exact go_retX (Ed.ex (ed_ifF (et_eqS (ed_v 3) ed_str) rfl (ed_ixT (ds := [.str "pair", b.enc, k.enc]) (ed_ixO (ed_v 1) (.head _) ed_int (kl_at (ks := [.pr b k]) (i := 0) (k := .pr b k) rfl)) ed_int))) (hq' fun M' l h => h)
  | fn A =>
    have hk : kindBy (.fn A) ks = some k := by rcases hk with ⟨j, e, h⟩ | ⟨j, e, h⟩ | h; cases e; cases e; exact h
    obtain ⟨b, rfl, rfl, _⟩ := kb_fn hk
    refine go_skip (et_b (et_inS (ed_v 3) t6) (by (try simp only [Nd.word]); decide +kernel)) ?_
    refine go_skip (et_b (et_inS (ed_v 3) t2) (by (try simp only [Nd.word]); decide +kernel)) ?_
    refine go_take (et_b (et_eqS (ed_v 3) ed_str) rfl) ?_
    exact go_retX (Ed.ex (ed_tup (ds := [.str "fun", A.enc, b.enc]) (ea_cons ed_str (ea_cons (ed_ixT (ds := [.str "fun", A.enc]) (ed_v 0) ed_int) (ea_cons (ed_ixO (ed_v 1) (.head _) ed_int (kl_at (i := 0) rfl)) ea_nil))))) (hq' fun M' l h => h)
  | both =>
    have hk : kindBy .both ks = some k := by rcases hk with ⟨j, e, h⟩ | ⟨j, e, h⟩ | h; cases e; cases e; exact h
    obtain ⟨a, b, rfl, rfl, _⟩ := kb_both hk
    refine go_skip (et_b (et_inS (ed_v 3) t6) (by (try simp only [Nd.word]); decide +kernel)) ?_
    refine go_skip (et_b (et_inS (ed_v 3) t2) (by (try simp only [Nd.word]); decide +kernel)) ?_
    refine go_skip (et_b (et_eqS (ed_v 3) ed_str) rfl) ?_
    refine go_take (et_b (et_eqS (ed_v 3) ed_str) rfl) ?_
    exact go_retX (Ed.ex (ed_tup (ds := [.str "pair", a.enc, b.enc]) (ea_cons ed_str (ea_cons (ed_ixO (ed_v 1) (.head _) ed_int (kl_at (i := 0) rfl)) (ea_cons (ed_ixO (ed_v 1) (.head _) ed_int (kl_at (i := 1) rfl)) ea_nil))))) (hq' fun M' l h => h)
  | call =>
    have hk : kindBy .call ks = some k := by rcases hk with ⟨j, e, h⟩ | ⟨j, e, h⟩ | h; cases e; cases e; exact h
    obtain ⟨a, rfl⟩ := kb_call hk
    refine go_skip (et_b (et_inS (ed_v 3) t6) (by (try simp only [Nd.word]); decide +kernel)) ?_
    refine go_skip (et_b (et_inS (ed_v 3) t2) (by (try simp only [Nd.word]); decide +kernel)) ?_
    refine go_skip (et_b (et_eqS (ed_v 3) ed_str) rfl) ?_
    refine go_skip (et_b (et_eqS (ed_v 3) ed_str) rfl) ?_
    refine go_take (et_b (et_eqS (ed_v 3) ed_str) rfl) ?_
    exact go_retX (Ed.ex (ed_ixT (ds := [.str "fun", a.enc, k.enc]) (ed_ixO (ed_v 1) (.head _) ed_int (kl_at (ks := [.fn a k, a]) (i := 0) (k := .fn a k) rfl)) ed_int)) (hq' fun M' l h => h)
  | left B =>
    have hk : kindBy (.left B) ks = some k := by rcases hk with ⟨j, e, h⟩ | ⟨j, e, h⟩ | h; cases e; cases e; exact h
    obtain ⟨a, rfl, rfl, _⟩ := kb_left hk
    refine go_skip (et_b (et_inS (ed_v 3) t6) (by (try simp only [Nd.word]); decide +kernel)) ?_
    refine go_skip (et_b (et_inS (ed_v 3) t2) (by (try simp only [Nd.word]); decide +kernel)) ?_
    refine go_skip (et_b (et_eqS (ed_v 3) ed_str) rfl) ?_
    refine go_skip (et_b (et_eqS (ed_v 3) ed_str) rfl) ?_
    refine go_skip (et_b (et_eqS (ed_v 3) ed_str) rfl) ?_
    exact go_retX (Ed.ex (ed_ifT (et_eqS (ed_v 3) ed_str) rfl (ed_tup (ds := [.str "sum", a.enc, B.enc]) (ea_cons ed_str (ea_cons (ed_ixO (ed_v 1) (.head _) ed_int (kl_at (i := 0) rfl)) (ea_cons (ed_ixT (ds := [.str "left", B.enc]) (ed_v 0) ed_int) ea_nil)))))) (hq' fun M' l h => h)
  | right B =>
    have hk : kindBy (.right B) ks = some k := by rcases hk with ⟨j, e, h⟩ | ⟨j, e, h⟩ | h; cases e; cases e; exact h
    obtain ⟨a, rfl, rfl, _⟩ := kb_right hk
    refine go_skip (et_b (et_inS (ed_v 3) t6) (by (try simp only [Nd.word]); decide +kernel)) ?_
    refine go_skip (et_b (et_inS (ed_v 3) t2) (by (try simp only [Nd.word]); decide +kernel)) ?_
    refine go_skip (et_b (et_eqS (ed_v 3) ed_str) rfl) ?_
    refine go_skip (et_b (et_eqS (ed_v 3) ed_str) rfl) ?_
    refine go_skip (et_b (et_eqS (ed_v 3) ed_str) rfl) ?_
    exact go_retX (Ed.ex (ed_ifF (et_eqS (ed_v 3) ed_str) rfl (ed_tup (ds := [.str "sum", B.enc, a.enc]) (ea_cons ed_str (ea_cons (ed_ixT (ds := [.str "right", B.enc]) (ed_v 0) ed_int) (ea_cons (ed_ixO (ed_v 1) (.head _) ed_int (kl_at (i := 0) rfl)) ea_nil)))))) (hq' fun M' l h => h)
end
end K32

set_option maxRecDepth 100000
set_option maxHeartbeats 4000000
namespace K32
open PySem L2
section
variable {P : Program} {w : World} {K : PySem.W.Frag} {mg : Str → Option Value} {base : Heap}
theorem deep_le (t : Tr) : t.deep ≤ t.size := by
  induction t <;> simp only [Tr.deep, Tr.size] <;> omega
def strsD (l : List Str) : PyData := .list (l.map .str)
def R_lplain : List PyData → PyData → Prop := fun ds d => ∃ t : Tr, ds = [t.enc] ∧ d = strsD (ruleW t)
def R_llong : List PyData → PyData → Prop := fun ds d => ∃ (t : Tr) (k : Kd), ds = [t.enc, k.enc] ∧ isFP k = true ∧ t.deep ≤ 60 ∧ d = (madeLong t k).enc
def R_lmade : List PyData → PyData → Prop := fun ds d => ∃ (t : Tr) (r : Str) (k : Kd), ds = [t.enc, .str r, k.enc] ∧ ((r = "long" ∧ isFP k = true) ∨ (r = t.node.word ∧ (madeW t).isSome = true)) ∧ t.deep ≤ 59 ∧ d = (mkS r t k).enc
theorem ed_topw {X : Cx} {O : Og} {M : Owns} {ρ : List Lo} {a : Expr} {p1 pos p2 pos2 : Pos} {j j2 : Nat} {s : Tr} {ts : List Tr} (h : Ed X O M ρ a (.d (.list ((s :: ts).map Tr.enc)))) : Ed X O M ρ (.Subscript (.Subscript a (.Constant (.int 0) j p1) pos) (.Constant (.int 0) j2 p2) pos2) (.d s.node.enc) :=
  ed_t0 (ed_ixL (ds := (s :: ts).map Tr.enc) h ed_int (atI_nat (j := 0) rfl))
theorem d__law_long (T : Tx w K mg) : Def P w K mg base CX0 "_law_long" 63 ["_law_tree_here", "_law_kind_here"] (spR K R_llong) := by
  refine def_R (f__law_long T) (g__law_long T) sc__law_long (fun _ _ _ _ _ _ us hl => match us, hl with | [_, _], _ => rfl) (fun ds d h => by obtain ⟨t, k, rfl, hk, hd, rfl⟩ := h; rfl) fun cdv A outer s H E hr ds d h O D hD hq => ?_
  obtain ⟨t, k, rfl, hk, hd, rfl⟩ := h
  cases k with
  | pr A B =>
    refine go_take (et_b (et_eqS (ed_kword (ed_v 1)) ed_str) rfl) ?_
    exact go_ret (ed_tup (ds := [Nd.both.enc, .list [(Tr.first t).enc, (Tr.second t).enc]]) (ea_cons (ed_tup (ds := [.str "both"]) (ea_cons ed_str ea_nil)) (ea_cons (ed_lst (ds := [(Tr.first t).enc, (Tr.second t).enc]) (ea_cons (ed_tup (ds := [Nd.first.enc, .list [t.enc]]) (ea_cons (ed_tup (ds := [.str "first"]) (ea_cons ed_str ea_nil)) (ea_cons (ed_lst (ds := [t.enc]) (ea_cons (ed_v 0) ea_nil)) ea_nil)))
      (ea_cons (ed_tup (ds := [Nd.second.enc, .list [t.enc]]) (ea_cons (ed_tup (ds := [.str "second"]) (ea_cons ed_str ea_nil)) (ea_cons (ed_lst (ds := [t.enc]) (ea_cons (ed_v 0) ea_nil)) ea_nil))) ea_nil))) ea_nil))) hq
  | fn A B =>
    refine go_skip (et_b (et_eqS (ed_kword (ed_v 1)) ed_str) rfl) ?_
    exact go_ret (ed_tup (ds := [(Nd.fn A).enc, .list [(Tr.call (Tr.lift 1 0 t) (.name 0)).enc]]) (ea_cons (ed_tup (ds := [.str "fun", A.enc]) (ea_cons ed_str (ea_cons (ed_ixT (ds := [.str "fun", A.enc, B.enc]) (ed_v 1) ed_int) ea_nil))) (ea_cons (ed_lst (ds := [(Tr.call (Tr.lift 1 0 t) (.name 0)).enc]) (ea_cons
      (ed_tup (ds := [Nd.call.enc, .list [(Tr.lift 1 0 t).enc, (Tr.name 0).enc]]) (ea_cons (ed_tup (ds := [.str "call"]) (ea_cons ed_str ea_nil)) (ea_cons (ed_lst (ds := [(Tr.lift 1 0 t).enc, (Tr.name 0).enc]) (ea_cons (ed_callR (ds := [t.enc, .int (1 : Nat), .int (0 : Nat)]) ((d_llift T 60).up (by decide)) hr (ea_cons (ed_v 0) (ea_cons ed_int (ea_cons ed_int ea_nil))) ⟨t, 1, 0, rfl, hd, rfl⟩)
        (ea_cons (ed_tup (ds := [(Nd.name 0).enc, .list []]) (ea_cons (ed_tup (ds := [.str "name", .int (0 : Nat)]) (ea_cons ed_str (ea_cons ed_int ea_nil))) (ea_cons (ed_lst (ds := []) ea_nil) ea_nil))) ea_nil))) ea_nil))) ea_nil)) ea_nil))) hq
  | _ => cases hk
end
end K32

set_option maxRecDepth 100000
set_option maxHeartbeats 4000000
namespace K32
open PySem L2
def topW (t : Tr) : Str := match t.parts with
  | [] => ""
  | s :: _ => s.node.word
def topD (t : Tr) : PyData := match t.parts with
  | [] => .tuple [.str ""]
  | s :: _ => s.node.enc
theorem topD_shape (t : Tr) : ∃ r, topD t = .tuple (.str (topW t) :: r) := by
  unfold topD topW
  cases t.parts with
  | nil => exact ⟨[], rfl⟩
  | cons s r => exact node_shape s.node
def pr1 (w t : Str) : Bool := (decide (w = "call") && decide (t = "fun")) || decide (w = "let")
def pr2 (w t : Str) : Bool := (["first", "second"] : List Str).contains w && decide (t = "both")
def pr3 (w t : Str) : Bool := (decide (w = "which") && (["left", "right"] : List Str).contains t) || ((["turns", "next"] : List Str).contains w && decide (t = "told"))
theorem ruleW_eq (t : Tr) : ruleW t = if pr1 t.node.word (topW t) then [t.node.word] else if pr2 t.node.word (topW t) then [t.node.word] else if pr3 t.node.word (topW t) then [t.node.word] else [] := by
  cases t with
  | name i => rfl
  | told i => rfl
  | fn A b => rfl
  | both a b => rfl
  | left B a => rfl
  | right B a => rfl
  | lt a b => rfl
  | call f a => cases f <;> rfl
  | first p => cases p <;> rfl
  | second p => cases p <;> rfl
  | which s l r => cases s <;> rfl
  | next p => cases p <;> rfl
  | turns A p u s => cases p <;> rfl
theorem eqv_nil {ds : List PyData} : PyData.eqv (.list ds) (.list []) = decide (ds = []) := by
  simp only [PyData.eqv]
  cases ds with
  | nil => simp only [PyData.eqvAll]; rfl
  | cons x r => simp only [PyData.eqvAll]; rfl
theorem eqok_nil {ds : List PyData} (h : PyData.canLayAll0 ds = true) : EqOk (.list ds) (.list []) := ⟨lay_list h, lay_list layA_nil, .inr (by simp only [PyData.depth, PyData.depthAll]; decide)⟩
section
variable {P : Program} {w : World} {K : PySem.W.Frag} {mg : Str → Option Value} {base : Heap}
variable {X : Cx} {O : Og} {M : Owns} {ρ : List Lo} {a : Expr} {p1 pos : Pos} {j : Nat}
theorem ed_topword {t : Tr} (h : Ed X O M ρ a (.d (topD t))) : Ed X O M ρ (.Subscript a (.Constant (.int 0) j p1) pos) (.d (.str (topW t))) := by
  obtain ⟨r, e⟩ := topD_shape t
  rw [e] at h
  exact ed_ixT h ed_int (atI_nat (j := 0) rfl)
theorem go_ifb {c : Expr} {k : Bool} {D : Ends} {tb fb rest : List Stmt} (hc : Et X O M ρ c k) (h1 : k = true → Go X O M ρ (thn X D rest) tb) (h2 : k = false → Go X O M ρ (thn X D rest) fb) : Go X O M ρ D (.If c tb fb pos :: rest) := go_if hc h1 h2
theorem d__law_plain_rules (T : Tx w K mg) : Def P w K mg base CX0 "_law_plain_rules" 1 ["_law_tree_here"] (spR K R_lplain) := by
  refine def_R (f__law_plain_rules T) (g__law_plain_rules T) sc__law_plain_rules (fun _ _ _ _ _ _ us hl => match us, hl with | [_], _ => rfl) (fun ds d h => by obtain ⟨t, rfl, rfl⟩ := h; rfl) fun cdv A outer s H E hr ds d h O D hD hq => ?_
  obtain ⟨t, rfl, rfl⟩ := h
  refine go_tup (ed_is (ed_v 0) (congrArg Lo.d t.enc_eq)) (pg_tup rfl (pgs_cons (pg_name (i := 1) sc__law_plain_rules.nd rfl (.inl rfl)) (pgs_cons (pg_name (i := 2) sc__law_plain_rules.nd rfl (.inl rfl)) pgs_nil))) (tg_two 1 2) ?_
  refine go_par2 3 4 (P := fun M' ls => M' = [] ∧ ls = [.d (.str t.node.word), .d (topD t)]) sc__law_plain_rules.nd ?_ ?_
  · refine (Ea.ac (ea_cons (ed_word (ed_v 1)) (ea_cons (l := .d (topD t)) ?_ ea_nil)))
    cases hp : t.parts with
    | nil =>
      refine ed_ifF (k := false) (et_b (et_ne hr.r64 (ed_v 2) (ed_lst (ds := []) ea_nil) (eqok_nil layA_nil)) ?_) rfl ?_
      · rw [eqv_nil]; rfl
      · unfold topD
        rw [hp]
        exact ed_tup (ds := [.str ""]) (ea_cons ed_str ea_nil)
    | cons s r =>
      refine ed_ifT (k := true) (et_b (et_ne hr.r64 (ed_v 2) (ed_lst (ds := []) ea_nil) (eqok_nil (lay_all Tr.lay _))) ?_) rfl ?_
      · rw [eqv_nil]; rfl
      · unfold topD
        rw [hp]
        exact ed_topw (s := s) (ts := r) (ed_v 2)
  · rintro M' ls ⟨rfl, rfl⟩
    refine ⟨_, _, rfl, ?_⟩
    rw [ruleW_eq] at hq
    refine go_if (k := pr1 t.node.word (topW t)) (et_or (et_and (et_eqS (ed_v 3) ed_str) fun _ => et_eqS (ed_topword (ed_v 4)) ed_str) fun _ => et_eqS (ed_v 3) ed_str) (fun e => ?_) (fun e => ?_)
    · rw [if_pos e] at hq
      exact go_ret (ed_lst (ds := [.str t.node.word]) (ea_cons (ed_v 3) ea_nil)) hq
    rw [if_neg (by rw [e]; decide)] at hq
    refine go_thn ?_
    refine go_if (k := pr2 t.node.word (topW t)) (et_and (et_inS (ss := ["first", "second"]) (ed_v 3) (ed_tup (ea_cons ed_str (ea_cons ed_str ea_nil)))) fun _ => et_eqS (ed_topword (ed_v 4)) ed_str) (fun e => ?_) (fun e => ?_)
    · rw [if_pos e] at hq
      exact go_ret (ed_lst (ds := [.str t.node.word]) (ea_cons (ed_v 3) ea_nil)) hq
    rw [if_neg (by rw [e]; decide)] at hq
    refine go_thn ?_
    refine go_if (k := pr3 t.node.word (topW t)) (et_or (et_and (et_eqS (ed_v 3) ed_str) fun _ => et_inS (ss := ["left", "right"]) (ed_topword (ed_v 4)) (ed_tup (ea_cons ed_str (ea_cons ed_str ea_nil)))) fun _ => et_and (et_inS (ss := ["turns", "next"]) (ed_v 3) (ed_tup (ea_cons ed_str (ea_cons ed_str ea_nil)))) fun _ => et_eqS (ed_topword (ed_v 4)) ed_str) (fun e => ?_) (fun e => ?_)
    · rw [if_pos e] at hq
      exact go_ret (ed_lst (ds := [.str t.node.word]) (ea_cons (ed_v 3) ea_nil)) hq
    rw [if_neg (by rw [e]; decide)] at hq
    refine go_thn ?_
    exact go_ret (ed_lst (ds := []) ea_nil) hq
end
end K32

set_option maxRecDepth 100000
set_option maxHeartbeats 4000000
namespace K32
open PySem L2
section
variable {P : Program} {w : World} {K : PySem.W.Frag} {mg : Str → Option Value} {base : Heap}
variable {X : Cx} {O : Og} {M : Owns} {ρ : List Lo} {a : Expr} {p1 pos : Pos} {j : Nat}
/-- parts[i] -/
theorem ed_part {ts : List Tr} {s : Tr} {i : Nat} (h : Ed X O M ρ a (.d (.list (ts.map Tr.enc)))) (hi : ts[i]? = some s := by rfl) : Ed X O M ρ (.Subscript a (.Constant (.int (i : Nat)) j p1) pos) (.d s.enc) :=
  ed_ixL (ds := ts.map Tr.enc) h ed_int (atI_nat (by rw [List.getElem?_map, hi]; rfl))
theorem ed_pow {i j : Int} {b : Expr} (ha : Ed X O M ρ a (.d (.int i))) (hb : Ed X O M ρ b (.d (.int j))) (hc : CPow i j) : Ed X O M ρ (.BinOp a .Pow b pos) (.d (.int (i ^ j.toNat))) := ed_op op_pow ha hb (rd_intC hc)
theorem d__law_made (T : Tx w K mg) : Def P w K mg base CX0 "_law_made" 126 ["_law_tree_here", "_law_rule", "_law_kind_here"] (spR K R_lmade) := by
  refine def_R (f__law_made T) (g__law_made T) sc__law_made (fun _ _ _ _ _ _ us hl => match us, hl with | [_, _, _], _ => rfl) (fun ds d h => by obtain ⟨t, r, k, rfl, hrk, hd, rfl⟩ := h; rfl) fun cdv A outer s H E hr ds d h O D hD hq => ?_
  obtain ⟨t, r, k, rfl, hrk, hd, rfl⟩ := h
  refine go_tup (ed_is (ed_v 0) (congrArg Lo.d t.enc_eq)) (pg_tup rfl (pgs_cons (pg_name (i := 3) sc__law_made.nd rfl (.inl rfl)) (pgs_cons (pg_name (i := 4) sc__law_made.nd rfl (.inl rfl)) pgs_nil))) (tg_two 3 4) ?_
  rcases hrk with ⟨rfl, hk⟩ | ⟨rfl, hm⟩
  · refine go_take (et_b (et_eqS (ed_v 1) ed_str) rfl) ?_
    exact go_ret (ed_callR (ds := [t.enc, k.enc]) ((d__law_long T).up (by decide)) hr (ea_cons (ed_v 0) (ea_cons (ed_v 2) ea_nil)) ⟨t, k, rfl, hk, by omega, rfl⟩) hq
  refine go_skip (et_b (et_eqS (ed_v 1) ed_str) (decide_eq_false (word_ne_long _))) ?_
  have t2 : ∀ {X : Cx} {O : Og} {M : Owns} {ρ : List Lo} {q0 q1 pos : Pos} {j0 j1 kt : Nat}, Ed X O M ρ (.Tuple [.Constant (.str "first") j0 q0, .Constant (.str "second") j1 q1] kt pos) (.d (.tuple ((["first", "second"] : List Str).map .str))) := fun {X O M ρ q0 q1 pos j0 j1 kt} => ed_tup (ea_cons ed_str (ea_cons ed_str ea_nil))
  have mk' : ∀ t', madeW t = some t' → mkS t.node.word t k = t' := fun t' h => by unfold mkS; rw [if_neg (word_ne_long _), h]; rfl
  cases t with
  | name i => cases hm
  | told i => cases hm
  | fn A b => cases hm
  | both a b => cases hm
  | left B a => cases hm
  | right B a => cases hm
  | first p =>
    cases p <;> try (cases hm; done)
    rename_i x y
    rw [mk' _ rfl] at hq
    refine go_take (et_b (et_inS (ed_v 1) t2) (by simp only [Tr.node, Nd.word]; decide +kernel)) ?_
    exact go_ret (ed_ixL (ds := [x.enc, y.enc]) (ed_t1 (t := .both x y) (ed_part (ts := [.both x y]) (i := 0) (ed_v 4))) (i := 0) (ed_ifT (et_eqS (ed_v 1) ed_str) rfl ed_int) rfl) hq
  | second p =>
    cases p <;> try (cases hm; done)
    rename_i x y
    rw [mk' _ rfl] at hq
    refine go_take (et_b (et_inS (ed_v 1) t2) (by simp only [Tr.node, Nd.word]; decide +kernel)) ?_
    exact go_ret (ed_ixL (ds := [x.enc, y.enc]) (ed_t1 (t := .both x y) (ed_part (ts := [.both x y]) (i := 0) (ed_v 4))) (i := 1) (ed_ifF (et_eqS (ed_v 1) ed_str) rfl ed_int) rfl) hq
  | call f a =>
    cases f <;> try (cases hm; done)
    rename_i A b
    rw [mk' _ rfl] at hq
    refine go_skip (et_b (et_inS (ed_v 1) t2) (by simp only [Tr.node, Nd.word]; decide +kernel)) ?_
    refine go_take (et_b (et_eqS (ed_v 1) ed_str) rfl) ?_
    simp only [Tr.deep] at hd
    exact go_ret (ed_callR (ds := [b.enc, a.enc, .int (0 : Nat)]) ((d_lput T 60).up (by decide)) hr (ea_cons (ed_part (ts := [b]) (i := 0) (ed_t1 (t := .fn A b) (ed_part (ts := [.fn A b, a]) (i := 0) (ed_v 4)))) (ea_cons (ed_part (ts := [.fn A b, a]) (i := 1) (ed_v 4)) (ea_cons ed_int ea_nil))) ⟨b, a, 0, rfl, by omega, by omega, rfl⟩) hq
  | lt x b =>
    rw [mk' _ rfl] at hq
    refine go_skip (et_b (et_inS (ed_v 1) t2) (by simp only [Tr.node, Nd.word]; decide +kernel)) ?_
    refine go_skip (et_b (et_eqS (ed_v 1) ed_str) rfl) ?_
    refine go_take (et_b (et_eqS (ed_v 1) ed_str) rfl) ?_
    simp only [Tr.deep] at hd
    exact go_ret (ed_callR (ds := [b.enc, x.enc, .int (0 : Nat)]) ((d_lput T 60).up (by decide)) hr (ea_cons (ed_part (ts := [x, b]) (i := 1) (ed_v 4)) (ea_cons (ed_part (ts := [x, b]) (i := 0) (ed_v 4)) (ea_cons ed_int ea_nil))) ⟨b, x, 0, rfl, by omega, by omega, rfl⟩) hq
  | which s l q =>
    simp only [Tr.deep] at hd
    cases s <;> try (cases hm; done)
    · rename_i B x
      rw [mk' _ rfl] at hq
      simp only [Tr.deep] at hd
      refine go_skip (et_b (et_inS (ed_v 1) t2) (by simp only [Tr.node, Nd.word]; decide +kernel)) ?_
      refine go_skip (et_b (et_eqS (ed_v 1) ed_str) rfl) ?_
      refine go_skip (et_b (et_eqS (ed_v 1) ed_str) rfl) ?_
      refine go_take (et_b (et_eqS (ed_v 1) ed_str) rfl) ?_
      exact go_ret (ed_callR (ds := [l.enc, x.enc, .int (0 : Nat)]) ((d_lput T 60).up (by decide)) hr (ea_cons (ed_ixL (ds := [(Tr.left B x).enc, l.enc, q.enc]) (i := 1) (ed_v 4) (ed_ifT (et_eqS (ed_word (ed_t0 (t := .left B x) (ed_part (ts := [.left B x, l, q]) (i := 0) (ed_v 4)))) ed_str) rfl ed_int) rfl)
        (ea_cons (ed_part (ts := [x]) (i := 0) (ed_t1 (t := .left B x) (ed_part (ts := [.left B x, l, q]) (i := 0) (ed_v 4)))) (ea_cons ed_int ea_nil))) ⟨l, x, 0, rfl, by omega, by omega, rfl⟩) hq
    · rename_i B x
      rw [mk' _ rfl] at hq
      simp only [Tr.deep] at hd
      refine go_skip (et_b (et_inS (ed_v 1) t2) (by simp only [Tr.node, Nd.word]; decide +kernel)) ?_
      refine go_skip (et_b (et_eqS (ed_v 1) ed_str) rfl) ?_
      refine go_skip (et_b (et_eqS (ed_v 1) ed_str) rfl) ?_
      refine go_take (et_b (et_eqS (ed_v 1) ed_str) rfl) ?_
      exact go_ret (ed_callR (ds := [q.enc, x.enc, .int (0 : Nat)]) ((d_lput T 60).up (by decide)) hr (ea_cons (ed_ixL (ds := [(Tr.right B x).enc, l.enc, q.enc]) (i := 2) (ed_v 4) (ed_ifF (et_eqS (ed_word (ed_t0 (t := .right B x) (ed_part (ts := [.right B x, l, q]) (i := 0) (ed_v 4)))) ed_str) rfl ed_int) rfl)
        (ea_cons (ed_part (ts := [x]) (i := 0) (ed_t1 (t := .right B x) (ed_part (ts := [.right B x, l, q]) (i := 0) (ed_v 4)))) (ea_cons ed_int ea_nil))) ⟨q, x, 0, rfl, by omega, by omega, rfl⟩) hq
  | next p =>
    cases p <;> try (cases hm; done)
    rename_i m
    rw [mk' _ rfl] at hq
    refine go_skip (et_b (et_inS (ed_v 1) t2) (by simp only [Tr.node, Nd.word]; decide +kernel)) ?_
    refine go_skip (et_b (et_eqS (ed_v 1) ed_str) rfl) ?_
    refine go_skip (et_b (et_eqS (ed_v 1) ed_str) rfl) ?_
    refine go_skip (et_b (et_eqS (ed_v 1) ed_str) rfl) ?_
    refine go_asg (l := .d (.int (m : Nat))) 5 sc__law_made.nd (ed_ixT (ds := [.str "told", .int m]) (ed_topw (s := .told m) (ts := []) (ed_v 4)) ed_int) ?_
    refine go_take (et_b (et_eqS (ed_v 1) ed_str) rfl) ?_
    refine go_ret (ed_tup (ds := [(Nd.told (min (m + 1) 1000000)).enc, .list []]) (ea_cons (ed_tup (ds := [.str "told", .int ((min (m + 1) 1000000 : Nat) : Int)]) (ea_cons ed_str (ea_cons (ed_is (ed_min2 rfl (b_min T) (ed_add (ed_v 5) ed_int) (ed_is (ed_pow (i := 10) (j := 6) ed_int ed_int ⟨by decide, by decide, by decide⟩) (l' := .d (.int 1000000)) (congrArg (fun z => Lo.d (.int z)) (by decide +kernel)))) ?_) ea_nil))) (ea_cons (ed_lst (ds := []) ea_nil) ea_nil))) hq
    refine congrArg (fun z => Lo.d (.int z)) ?_
    split <;> omega
  | turns A p u s =>
    cases p <;> try (cases hm; done)
    rename_i m
    simp only [Tr.deep] at hd
    refine go_skip (et_b (et_inS (ed_v 1) t2) (by simp only [Tr.node, Nd.word]; decide +kernel)) ?_
    refine go_skip (et_b (et_eqS (ed_v 1) ed_str) rfl) ?_
    refine go_skip (et_b (et_eqS (ed_v 1) ed_str) rfl) ?_
    refine go_skip (et_b (et_eqS (ed_v 1) ed_str) rfl) ?_
    refine go_asg (l := .d (.int (m : Nat))) 5 sc__law_made.nd (ed_ixT (ds := [.str "told", .int m]) (ed_topw (s := .told m) (ts := [u, s]) (ed_v 4)) ed_int) ?_
    refine go_skip (et_b (et_eqS (ed_v 1) ed_str) rfl) ?_
    cases m with
    | zero =>
      rw [mk' _ rfl] at hq
      refine go_take (et_b (et_eqI (ed_v 5) ed_int) rfl) ?_
      exact go_ret (ed_part (ts := [.told 0, u, s]) (i := 2) (ed_v 4)) hq
    | succ m =>
      rw [mk' _ rfl] at hq
      refine go_skip (et_b (et_eqI (ed_v 5) ed_int) (decide_eq_false (by omega))) ?_
      refine go_ret (ed_callR (ds := [u.enc, (Tr.turns A (.told m) u s).enc, .int (0 : Nat)]) ((d_lput T 60).up (by decide)) hr (ea_cons (ed_part (ts := [.told (m + 1), u, s]) (i := 1) (ed_v 4)) (ea_cons (ed_tup (ds := [(Nd.turns A).enc, .list [(Tr.told m).enc, u.enc, s.enc]]) (ea_cons (ed_v 3) (ea_cons (ed_lst (ds := [(Tr.told m).enc, u.enc, s.enc]) (ea_cons
        (ed_is (ed_tup (ds := [.tuple [.str "told", .int (((m + 1 : Nat) : Int) - 1)], .list []]) (ea_cons (ed_tup (ds := [.str "told", .int (((m + 1 : Nat) : Int) - 1)]) (ea_cons ed_str (ea_cons (ed_sub (ed_v 5) ed_int) ea_nil))) (ea_cons (ed_lst (ds := []) ea_nil) ea_nil))) (by rw [show (((m + 1 : Nat) : Int) - 1) = (m : Int) by omega]; rfl))
        (ea_cons (ed_part (ts := [.told (m + 1), u, s]) (i := 1) (ed_v 4)) (ea_cons (ed_part (ts := [.told (m + 1), u, s]) (i := 2) (ed_v 4)) ea_nil)))) ea_nil))) (ea_cons ed_int ea_nil))) ⟨u, _, 0, rfl, by omega, by simp only [Tr.deep] at hd ⊢; omega, rfl⟩) hq
end
end K32

namespace K32
open PySem
/-! # The parts of a tree that has a kind, one behind another -/
def kidG (Γ : List Kd) : Tr → List (List Kd)
  | .fn A _ => [A :: Γ]
  | .call _ _ => [Γ, Γ]
  | .both _ _ => [Γ, Γ]
  | .first _ => [Γ]
  | .second _ => [Γ]
  | .left _ _ => [Γ]
  | .right _ _ => [Γ]
  | .next _ => [Γ]
  | .which s _ _ => [Γ, (kOf Γ s).one :: Γ, (kOf Γ s).two :: Γ]
  | .turns A _ _ _ => [Γ, A :: Γ, Γ]
  | .lt a _ => [Γ, kOf Γ a :: Γ]
  | _ => []
def kidK (Γ : List Kd) : Tr → List Kd
  | .fn A b => [kOf (A :: Γ) b]
  | .call f a => [kOf Γ f, kOf Γ a]
  | .both f a => [kOf Γ f, kOf Γ a]
  | .first p => [kOf Γ p]
  | .second p => [kOf Γ p]
  | .left _ p => [kOf Γ p]
  | .right _ p => [kOf Γ p]
  | .next p => [kOf Γ p]
  | .which s l r => [kOf Γ s, kOf ((kOf Γ s).one :: Γ) l, kOf ((kOf Γ s).two :: Γ) r]
  | .turns A n u s => [kOf Γ n, kOf (A :: Γ) u, kOf Γ s]
  | .lt a b => [kOf Γ a, kOf (kOf Γ a :: Γ) b]
  | _ => []
theorem kidK_len (Γ : List Kd) (t : Tr) : (kidK Γ t).length = t.parts.length := by cases t <;> rfl
theorem kidG_len (Γ : List Kd) (t : Tr) : (kidG Γ t).length = t.parts.length := by cases t <;> rfl
theorem kind_here {Γ : List Kd} {t : Tr} {k : Kd} (h : ty Γ t = some k) : (∃ i, t.node = .name i ∧ Γ[i]? = some k) ∨ (∃ i, t.node = .told i ∧ k = .cnt) ∨ kindBy t.node (kidK Γ t) = some k := by
  cases t with
  | name i => exact .inl ⟨i, rfl, h⟩
  | told i => cases h; exact .inr (.inl ⟨i, rfl, rfl⟩)
  | fn A b => obtain ⟨kb, h1, h⟩ := bnd h; right; right; show kindBy (.fn A) [kOf (A :: Γ) b] = _; rw [kOf_eq h1]; exact h
  | first b => obtain ⟨kb, h1, h⟩ := bnd h; right; right; show kindBy .first [kOf Γ b] = _; rw [kOf_eq h1]; exact h
  | second b => obtain ⟨kb, h1, h⟩ := bnd h; right; right; show kindBy .second [kOf Γ b] = _; rw [kOf_eq h1]; exact h
  | left A b => obtain ⟨kb, h1, h⟩ := bnd h; right; right; show kindBy (.left A) [kOf Γ b] = _; rw [kOf_eq h1]; exact h
  | right A b => obtain ⟨kb, h1, h⟩ := bnd h; right; right; show kindBy (.right A) [kOf Γ b] = _; rw [kOf_eq h1]; exact h
  | next b => obtain ⟨kb, h1, h⟩ := bnd h; right; right; show kindBy .next [kOf Γ b] = _; rw [kOf_eq h1]; exact h
  | call f a => obtain ⟨kf, h1, h⟩ := bnd h; obtain ⟨ka, h2, h⟩ := bnd h; right; right; show kindBy .call [kOf Γ f, kOf Γ a] = _; rw [kOf_eq h1, kOf_eq h2]; exact h
  | both f a => obtain ⟨kf, h1, h⟩ := bnd h; obtain ⟨ka, h2, h⟩ := bnd h; right; right; show kindBy .both [kOf Γ f, kOf Γ a] = _; rw [kOf_eq h1, kOf_eq h2]; exact h
  | lt f a => obtain ⟨kf, h1, h⟩ := bnd h; obtain ⟨ka, h2, h⟩ := bnd h; right; right; show kindBy .lt [kOf Γ f, kOf (kOf Γ f :: Γ) a] = _; rw [kOf_eq h1, kOf_eq h2]; exact h
  | which s l r =>
    obtain ⟨a, b, h1, h2, h3⟩ := tyWhich h
    right; right
    show kindBy .which [kOf Γ s, kOf ((kOf Γ s).one :: Γ) l, kOf ((kOf Γ s).two :: Γ) r] = _
    rw [kOf_eq h1]
    simp only [Kd.one, Kd.two]
    rw [kOf_eq h2, kOf_eq h3]
    show (if k = k then some k else none) = some k
    rw [if_pos rfl]
  | turns A n u s => obtain ⟨k1, h1, h⟩ := bnd h; obtain ⟨k2, h2, h⟩ := bnd h; obtain ⟨k3, h3, h⟩ := bnd h; right; right; show kindBy (.turns A) [kOf Γ n, kOf (A :: Γ) u, kOf Γ s] = _; rw [kOf_eq h1, kOf_eq h2, kOf_eq h3]; exact h
/-- the part at a place: what is around it, its kind -/
structure KidAt (Γ : List Kd) (t : Tr) (j : Nat) (s : Tr) (G : List Kd) (k : Kd) (b : Nat) : Prop where
  part : t.parts[j]? = some s
  env : (kidG Γ t)[j]? = some G
  kd : (kidK Γ t)[j]? = some k
  ty : ty G s = some k
  bd : t.node.binds[j]? = some b
  how : (b = 0 ∧ G = Γ) ∨ (b = 1 ∧ ∃ x, boundBy t.node ((kidK Γ t).take j) = some x ∧ G = x :: Γ)
theorem kid_at {Γ : List Kd} {t : Tr} {k : Kd} (h : ty Γ t = some k) {j : Nat} (hj : j < t.parts.length) : ∃ s G kj b, KidAt Γ t j s G kj b := by
  have one : ∀ {s : Tr} {G : List Kd} {kj : Kd}, j < 1 → j = 0 := fun h => by omega
  cases t with
  | name i => simp [Tr.parts] at hj
  | told i => simp [Tr.parts] at hj
  | fn A b => obtain ⟨kb, h1, h⟩ := bnd h; have : j = 0 := by simp [Tr.parts] at hj; exact hj
              subst this; exact ⟨b, _, _, 1, rfl, rfl, rfl, (by rw [kOf_eq h1]; exact h1), rfl, .inr ⟨rfl, A, rfl, rfl⟩⟩
  | first b => obtain ⟨kb, h1, h⟩ := bnd h; have : j = 0 := by simp [Tr.parts] at hj; exact hj
               subst this; exact ⟨b, _, _, 0, rfl, rfl, rfl, (by rw [kOf_eq h1]; exact h1), rfl, .inl ⟨rfl, rfl⟩⟩
  | second b => obtain ⟨kb, h1, h⟩ := bnd h; have : j = 0 := by simp [Tr.parts] at hj; exact hj
                subst this; exact ⟨b, _, _, 0, rfl, rfl, rfl, (by rw [kOf_eq h1]; exact h1), rfl, .inl ⟨rfl, rfl⟩⟩
  | left A b => obtain ⟨kb, h1, h⟩ := bnd h; have : j = 0 := by simp [Tr.parts] at hj; exact hj
                subst this; exact ⟨b, _, _, 0, rfl, rfl, rfl, (by rw [kOf_eq h1]; exact h1), rfl, .inl ⟨rfl, rfl⟩⟩
  | right A b => obtain ⟨kb, h1, h⟩ := bnd h; have : j = 0 := by simp [Tr.parts] at hj; exact hj
                 subst this; exact ⟨b, _, _, 0, rfl, rfl, rfl, (by rw [kOf_eq h1]; exact h1), rfl, .inl ⟨rfl, rfl⟩⟩
  | next b => obtain ⟨kb, h1, h⟩ := bnd h; have : j = 0 := by simp [Tr.parts] at hj; exact hj
              subst this; exact ⟨b, _, _, 0, rfl, rfl, rfl, (by rw [kOf_eq h1]; exact h1), rfl, .inl ⟨rfl, rfl⟩⟩
  | call f a =>
    obtain ⟨kf, h1, h⟩ := bnd h; obtain ⟨ka, h2, h⟩ := bnd h
    have : j = 0 ∨ j = 1 := by simp [Tr.parts] at hj; omega
    rcases this with rfl | rfl
    · exact ⟨f, _, _, 0, rfl, rfl, rfl, (by rw [kOf_eq h1]; exact h1), rfl, .inl ⟨rfl, rfl⟩⟩
    · exact ⟨a, _, _, 0, rfl, rfl, rfl, (by rw [kOf_eq h2]; exact h2), rfl, .inl ⟨rfl, rfl⟩⟩
  | both f a =>
    obtain ⟨kf, h1, h⟩ := bnd h; obtain ⟨ka, h2, h⟩ := bnd h
    have : j = 0 ∨ j = 1 := by simp [Tr.parts] at hj; omega
    rcases this with rfl | rfl
    · exact ⟨f, _, _, 0, rfl, rfl, rfl, (by rw [kOf_eq h1]; exact h1), rfl, .inl ⟨rfl, rfl⟩⟩
    · exact ⟨a, _, _, 0, rfl, rfl, rfl, (by rw [kOf_eq h2]; exact h2), rfl, .inl ⟨rfl, rfl⟩⟩
  | lt f a =>
    obtain ⟨kf, h1, h⟩ := bnd h; obtain ⟨ka, h2, h⟩ := bnd h
    have : j = 0 ∨ j = 1 := by simp [Tr.parts] at hj; omega
    rcases this with rfl | rfl
    · exact ⟨f, _, _, 0, rfl, rfl, rfl, (by rw [kOf_eq h1]; exact h1), rfl, .inl ⟨rfl, rfl⟩⟩
    · exact ⟨a, kOf Γ f :: Γ, kOf (kOf Γ f :: Γ) a, 1, rfl, rfl, rfl, (by rw [kOf_eq h1, kOf_eq h2]; exact h2), rfl, .inr ⟨rfl, _, rfl, rfl⟩⟩
  | which s l r =>
    obtain ⟨a, b, h1, h2, h3⟩ := tyWhich h
    have : j = 0 ∨ j = 1 ∨ j = 2 := by simp [Tr.parts] at hj; omega
    rcases this with rfl | rfl | rfl
    · exact ⟨s, _, _, 0, rfl, rfl, rfl, (by rw [kOf_eq h1]; exact h1), rfl, .inl ⟨rfl, rfl⟩⟩
    · refine ⟨l, (kOf Γ s).one :: Γ, kOf ((kOf Γ s).one :: Γ) l, 1, rfl, rfl, rfl, ?_, rfl, .inr ⟨rfl, (kOf Γ s).one, ?_, rfl⟩⟩
      · rw [kOf_eq h1]; simp only [Kd.one]; rw [kOf_eq h2]; exact h2
      · show boundBy .which [kOf Γ s] = _; rw [kOf_eq h1]; rfl
    · refine ⟨r, (kOf Γ s).two :: Γ, kOf ((kOf Γ s).two :: Γ) r, 1, rfl, rfl, rfl, ?_, rfl, .inr ⟨rfl, (kOf Γ s).two, ?_, rfl⟩⟩
      · rw [kOf_eq h1]; simp only [Kd.two]; rw [kOf_eq h3]; exact h3
      · show boundBy .which [kOf Γ s, kOf ((kOf Γ s).one :: Γ) l] = _; rw [kOf_eq h1]; rfl
  | turns A n u s =>
    obtain ⟨k1, h1, h⟩ := bnd h; obtain ⟨k2, h2, h⟩ := bnd h; obtain ⟨k3, h3, h⟩ := bnd h
    have : j = 0 ∨ j = 1 ∨ j = 2 := by simp [Tr.parts] at hj; omega
    rcases this with rfl | rfl | rfl
    · exact ⟨n, _, _, 0, rfl, rfl, rfl, (by rw [kOf_eq h1]; exact h1), rfl, .inl ⟨rfl, rfl⟩⟩
    · exact ⟨u, A :: Γ, kOf (A :: Γ) u, 1, rfl, rfl, rfl, (by rw [kOf_eq h2]; exact h2), rfl, .inr ⟨rfl, A, rfl, rfl⟩⟩
    · exact ⟨s, _, _, 0, rfl, rfl, rfl, (by rw [kOf_eq h3]; exact h3), rfl, .inl ⟨rfl, rfl⟩⟩
def headHolds (t : Tr) : Bool := (["call", "first", "second"] : List Str).contains t.node.word
def heldW (t : Tr) (j : Nat) : Bool := decide (j = 0) && headHolds t
/-- where the part j begins, behind the node -/
def offK (t : Tr) (j : Nat) : Nat := ((t.parts.take j).map Tr.size).sum
theorem offK_succ {t s : Tr} {j : Nat} (h : t.parts[j]? = some s) : offK t (j + 1) = offK t j + s.size := by unfold offK; rw [take_succ' h, List.map_append, List.sum_append]; simp
theorem offK_all (t : Tr) : 1 + offK t t.parts.length = t.size := by
  unfold offK
  rw [List.take_length]
  cases t <;> simp [Tr.parts, Tr.size] <;> omega
def lookK (Γ : List Kd) (p : Nat) (t : Tr) (i : Nat) : List (Nat × Str) := looks ((kidG Γ t).getD i []) (p + 1 + offK t i) (heldW t i) (t.parts.getD i (.name 0))
def looksK (Γ : List Kd) (p : Nat) (t : Tr) (j : Nat) : List (Nat × Str) := ((List.range j).map (lookK Γ p t)).flatten
theorem looksK_succ (Γ : List Kd) (p : Nat) (t : Tr) (j : Nat) : looksK Γ p t (j + 1) = looksK Γ p t j ++ lookK Γ p t j := by
  unfold looksK
  rw [List.range_succ, List.map_append, List.flatten_append]
  simp
theorem looks_eq (Γ : List Kd) (p : Nat) (h : Bool) (t : Tr) : looks Γ p h t = ownAt p t ++ looksK Γ p t t.parts.length ++ longAt p Γ h t := by
  cases t with
  | name i => simp [looks, looksK, Tr.parts]
  | told i => simp [looks, looksK, Tr.parts]
  | fn A b => have e0 : headHolds (.fn A b) = false := (by unfold headHolds; simp only [Tr.node, Nd.word]; decide +kernel); simp only [looks, looksK, lookK, Tr.parts, List.length_cons, List.length_nil, List.range_succ, List.range_zero, List.nil_append, List.map_cons, List.map_nil, List.flatten_cons, List.flatten_nil, List.append_nil, kidG, List.getD_cons_zero, offK, List.take_zero, List.sum_nil, Nat.add_zero, heldW, e0]; rfl
  | first b => have e0 : headHolds (.first b) = true := (by unfold headHolds; simp only [Tr.node, Nd.word]; decide +kernel); simp only [looks, looksK, lookK, Tr.parts, List.length_cons, List.length_nil, List.range_succ, List.range_zero, List.nil_append, List.map_cons, List.map_nil, List.flatten_cons, List.flatten_nil, List.append_nil, kidG, List.getD_cons_zero, offK, List.take_zero, List.sum_nil, Nat.add_zero, heldW, e0]; rfl
  | second b => have e0 : headHolds (.second b) = true := (by unfold headHolds; simp only [Tr.node, Nd.word]; decide +kernel); simp only [looks, looksK, lookK, Tr.parts, List.length_cons, List.length_nil, List.range_succ, List.range_zero, List.nil_append, List.map_cons, List.map_nil, List.flatten_cons, List.flatten_nil, List.append_nil, kidG, List.getD_cons_zero, offK, List.take_zero, List.sum_nil, Nat.add_zero, heldW, e0]; rfl
  | left A b => have e0 : headHolds (.left A b) = false := (by unfold headHolds; simp only [Tr.node, Nd.word]; decide +kernel); simp only [looks, looksK, lookK, Tr.parts, List.length_cons, List.length_nil, List.range_succ, List.range_zero, List.nil_append, List.map_cons, List.map_nil, List.flatten_cons, List.flatten_nil, List.append_nil, kidG, List.getD_cons_zero, offK, List.take_zero, List.sum_nil, Nat.add_zero, heldW, e0]; rfl
  | right A b => have e0 : headHolds (.right A b) = false := (by unfold headHolds; simp only [Tr.node, Nd.word]; decide +kernel); simp only [looks, looksK, lookK, Tr.parts, List.length_cons, List.length_nil, List.range_succ, List.range_zero, List.nil_append, List.map_cons, List.map_nil, List.flatten_cons, List.flatten_nil, List.append_nil, kidG, List.getD_cons_zero, offK, List.take_zero, List.sum_nil, Nat.add_zero, heldW, e0]; rfl
  | next b => have e0 : headHolds (.next b) = false := (by unfold headHolds; simp only [Tr.node, Nd.word]; decide +kernel); simp only [looks, looksK, lookK, Tr.parts, List.length_cons, List.length_nil, List.range_succ, List.range_zero, List.nil_append, List.map_cons, List.map_nil, List.flatten_cons, List.flatten_nil, List.append_nil, kidG, List.getD_cons_zero, offK, List.take_zero, List.sum_nil, Nat.add_zero, heldW, e0]; rfl
  | call f a => have e0 : headHolds (.call f a) = true := (by unfold headHolds; simp only [Tr.node, Nd.word]; decide +kernel); simp [looks, looksK, lookK, Tr.parts, List.range_succ, kidG, offK, heldW, e0, Nat.add_assoc]
  | both f a => have e0 : headHolds (.both f a) = false := (by unfold headHolds; simp only [Tr.node, Nd.word]; decide +kernel); simp [looks, looksK, lookK, Tr.parts, List.range_succ, kidG, offK, heldW, e0, Nat.add_assoc]
  | lt f a => have e0 : headHolds (.lt f a) = false := (by unfold headHolds; simp only [Tr.node, Nd.word]; decide +kernel); simp [looks, looksK, lookK, Tr.parts, List.range_succ, kidG, offK, heldW, e0, Nat.add_assoc]
  | which s u v => have e0 : headHolds (.which s u v) = false := (by unfold headHolds; simp only [Tr.node, Nd.word]; decide +kernel); simp [looks, looksK, lookK, Tr.parts, List.range_succ, kidG, offK, heldW, e0, Nat.add_assoc]
  | turns A s u v => have e0 : headHolds (.turns A s u v) = false := (by unfold headHolds; simp only [Tr.node, Nd.word]; decide +kernel); simp [looks, looksK, lookK, Tr.parts, List.range_succ, kidG, offK, heldW, e0, Nat.add_assoc]
theorem rules_len (Γ : List Kd) (h : Bool) (t : Tr) : (rulesT Γ h t).length ≤ 2 := by
  unfold rulesT ruleW longs
  rw [List.length_append]
  split <;> split <;> simp
theorem looks_len (t : Tr) : ∀ Γ p h, (looks Γ p h t).length ≤ 2 * t.size := by
  have key : ∀ {Γ p h} {t : Tr} {m : List (Nat × Str)}, (ownAt p t ++ m ++ longAt p Γ h t).length ≤ 2 + m.length := fun {Γ p h t m} => by
    have := rules_len Γ h t
    unfold rulesT at this
    rw [List.length_append] at this
    simp only [ownAt, longAt, List.length_append, List.length_map]
    omega
  induction t with
  | name i => intro Γ p h; have := key (Γ := Γ) (p := p) (h := h) (t := .name i) (m := []); simp only [looks, Tr.size]; rw [List.append_nil] at this; simpa using this
  | told i => intro Γ p h; have := key (Γ := Γ) (p := p) (h := h) (t := .told i) (m := []); simp only [looks, Tr.size]; rw [List.append_nil] at this; simpa using this
  | fn A b ih => intro Γ p h; have h1 := ih (A :: Γ) (p + 1) false; refine Nat.le_trans key ?_; simp only [Tr.size]; omega
  | first b ih => intro Γ p h; have h1 := ih Γ (p + 1) true; refine Nat.le_trans key ?_; simp only [Tr.size]; omega
  | second b ih => intro Γ p h; have h1 := ih Γ (p + 1) true; refine Nat.le_trans key ?_; simp only [Tr.size]; omega
  | left A b ih => intro Γ p h; have h1 := ih Γ (p + 1) false; refine Nat.le_trans key ?_; simp only [Tr.size]; omega
  | right A b ih => intro Γ p h; have h1 := ih Γ (p + 1) false; refine Nat.le_trans key ?_; simp only [Tr.size]; omega
  | next b ih => intro Γ p h; have h1 := ih Γ (p + 1) false; refine Nat.le_trans key ?_; simp only [Tr.size]; omega
  | call f a ih1 ih2 => intro Γ p h; have h1 := ih1 Γ (p + 1) true; have h2 := ih2 Γ (p + 1 + f.size) false; refine Nat.le_trans key ?_; simp only [Tr.size, List.length_append]; omega
  | both f a ih1 ih2 => intro Γ p h; have h1 := ih1 Γ (p + 1) false; have h2 := ih2 Γ (p + 1 + f.size) false; refine Nat.le_trans key ?_; simp only [Tr.size, List.length_append]; omega
  | lt f a ih1 ih2 => intro Γ p h; have h1 := ih1 Γ (p + 1) false; have h2 := ih2 (kOf Γ f :: Γ) (p + 1 + f.size) false; refine Nat.le_trans key ?_; simp only [Tr.size, List.length_append]; omega
  | which s u v ih1 ih2 ih3 => intro Γ p h; have h1 := ih1 Γ (p + 1) false; have h2 := ih2 ((kOf Γ s).one :: Γ) (p + 1 + s.size) false; have h3 := ih3 ((kOf Γ s).two :: Γ) (p + 1 + s.size + u.size) false; refine Nat.le_trans key ?_; simp only [Tr.size, List.length_append]; omega
  | turns A s u v ih1 ih2 ih3 => intro Γ p h; have h1 := ih1 Γ (p + 1) false; have h2 := ih2 (A :: Γ) (p + 1 + s.size) false; have h3 := ih3 Γ (p + 1 + s.size + u.size) false; refine Nat.le_trans key ?_; simp only [Tr.size, List.length_append]; omega
def stepK (Γ : List Kd) (p q : Nat) (r : Str) (t : Tr) (i : Nat) : Tr := stepT ((kidG Γ t).getD i []) (p + 1 + offK t i) q r (t.parts.getD i (.name 0))
theorem stepT_enc (Γ : List Kd) (p q : Nat) (r : Str) (t : Tr) : (stepT Γ p q r t).enc = if p = q then (mkS r t (kOf Γ t)).enc else .tuple [t.node.enc, .list (((List.range t.parts.length).map (stepK Γ p q r t)).map Tr.enc)] := by
  cases t <;> simp only [stepT] <;> split <;> first | rfl | simp [stepK, Tr.parts, List.range_succ, kidG, offK, Tr.node, Nat.add_assoc, Tr.enc]
end K32

set_option maxRecDepth 100000
set_option maxHeartbeats 4000000
namespace K32
open PySem L2
def stepD (q : Nat × Str) : PyData := .tuple [.int q.1, .str q.2]
def stepsD (l : List (Nat × Str)) : PyData := .list (l.map stepD)
def R_llook (n : Nat) : List PyData → PyData → Prop := fun ds d => ∃ (t : Tr) (Γ : List Kd) (p : Nat) (h : Bool) (k : Kd), ds = [t.enc, envD Γ, .int p, .bool h] ∧ t.deep ≤ n ∧ t.size ≤ 1000 ∧ Γ.length + t.size ≤ 1100 ∧ ty Γ t = some k ∧ d = .tuple [k.enc, stepsD (looks Γ p h t), .int (p + t.size : Nat)]
theorem kl_nil : (kl [] : List Lo) = [] := rfl
theorem sum_take_le {l : List Nat} (i : Nat) : (l.take i).sum ≤ l.sum := by
  have e : l.sum = (l.take i).sum + (l.drop i).sum := by rw [← List.sum_append, List.take_append_drop]
  omega
theorem offK_le {t s : Tr} {j : Nat} (h : t.parts[j]? = some s) : 1 + offK t j + s.size ≤ t.size := by
  rw [← offK_all t, Nat.add_assoc, ← offK_succ h]
  unfold offK
  rw [List.take_length, List.map_take]
  have := sum_take_le (l := t.parts.map Tr.size) (j + 1)
  omega
theorem KidAt.lk {Γ G : List Kd} {t s : Tr} {j b p : Nat} {kj : Kd} (q : KidAt Γ t j s G kj b) : lookK Γ p t j = looks G (p + 1 + offK t j) (heldW t j) s := by
  unfold lookK
  rw [List.getD_eq_getElem?_getD, q.env, List.getD_eq_getElem?_getD, q.part]
  rfl
theorem KidAt.take {Γ G : List Kd} {t s : Tr} {j b : Nat} {kj : Kd} (q : KidAt Γ t j s G kj b) : (kidK Γ t).take (j + 1) = (kidK Γ t).take j ++ [kj] := take_succ' q.kd
theorem binds_le (n : Nd) : n.binds.length ≤ 3 := by cases n <;> simp [Nd.binds]
theorem parts_le (t : Tr) : t.parts.length ≤ 3 := by rw [t.parts_len]; exact binds_le _
section
variable {P : Program} {w : World} {K : PySem.W.Frag} {mg : Str → Option Value} {base : Heap}
theorem looksK_len {Γ : List Kd} {p : Nat} {t : Tr} {i : Nat} (hi : i ≤ t.parts.length) : (looksK Γ p t i).length ≤ 2 * offK t i := by
  induction i with
  | zero => simp [looksK]
  | succ i ih =>
    obtain ⟨s, hs⟩ := get_lt (l := t.parts) (i := i) (by omega)
    rw [looksK_succ, List.length_append, offK_succ hs]
    have h1 := ih (by omega)
    have h2 := looks_len (t.parts.getD i (.name 0)) ((kidG Γ t).getD i []) (p + 1 + offK t i) (heldW t i)
    rw [List.getD_eq_getElem?_getD (l := t.parts), hs] at h2
    have e : lookK Γ p t i = looks ((kidG Γ t).getD i []) (p + 1 + offK t i) (heldW t i) s := by unfold lookK; rw [List.getD_eq_getElem?_getD (l := t.parts), hs]; rfl
    rw [e]
    simp only [Option.getD_some] at h2
    omega
theorem d_llook (T : Tx w K mg) : ∀ n, Def P w K mg base CX0 "_law_look" (n + 2) ["_law_tree_here", "_law_env", "_law_at", "_law_is_held"] (spR K (R_llook n)) := by
  intro n
  induction n with
  | zero =>
    refine def_R (f__law_look T) (g__law_look T) sc__law_look (fun _ _ _ _ _ _ us hl => match us, hl with | [_, _, _, _], _ => rfl) (fun ds d h => by obtain ⟨t, Γ, p, h, k, rfl, _⟩ := h; rfl) fun cdv A outer s H E hr ds d h O D hD hq => ?_
    obtain ⟨t, Γ, p, h, k, rfl, h, _⟩ := h
    cases t <;> simp only [Tr.deep] at h <;> omega
  | succ n ih =>
    refine def_R (f__law_look T) (g__law_look T) sc__law_look (fun _ _ _ _ _ _ us hl => match us, hl with | [_, _, _, _], _ => rfl) (fun ds d h => by obtain ⟨t, Γ, p, h, k, rfl, _⟩ := h; rfl) fun cdv A outer s H E hr ds d h O D hD hq => ?_
    obtain ⟨t, Γ, p, h, k, rfl, hd, hz, hzΓ, hty, rfl⟩ := h
    have hp3 := parts_le t
    refine go_tup (ed_is (ed_v 0) (congrArg Lo.d t.enc_eq)) (pg_tup rfl (pgs_cons (pg_name (i := 4) sc__law_look.nd rfl (.inl rfl)) (pgs_cons (pg_name (i := 5) sc__law_look.nd rfl (.inl rfl)) pgs_nil))) (tg_two 4 5) ?_
    refine go_par3 7 8 9 sc__law_look.nd (ac_l (el_lst (ls := []) ea_nil) fun sp hsp => ac_l (El.is (el_lc 6 (ls := fun j => .d (stepD (p, (ruleW t).getD j ""))) rfl sc__law_look.nd (it_list (ed_callR (ds := [t.enc]) ((d__law_plain_rules T).up (by omega)) hr (ea_cons (ed_v 0) ea_nil) ⟨t, rfl, rfl⟩)) (blkOk_by (N := N__law_look) (sc := defScope sL_look) (own := [("_law_rule", 6)]) (by decide +kernel)) (fun _ _ _ _ _ => pg_name (i := 6) sc__law_look.nd rfl (.inl rfl))
      (by rw [List.length_map]; unfold ruleW; split <;> simp) (fun L q w' j hj s' H' C' cl fp => ?_)) (ks := ((ownAt p t).map stepD).map .d) ?_) fun fp hfp => ac_d (ed_add (ed_v 2) ed_int) ac_nil) ?_
    · rw [List.length_map] at hj
      have e : ((ruleW t).map PyData.str).getD j .none = .str ((ruleW t).getD j "") := by
        rw [List.getD_eq_getElem?_getD, List.getElem?_map, List.getElem?_eq_getElem hj, List.getD_eq_getElem?_getD, List.getElem?_eq_getElem hj]; rfl
      rw [e]
      exact ed_tup (ds := [.int p, .str ((ruleW t).getD j "")]) (ea_cons (ed_v 2) (ea_cons (ed_v 6) ea_nil))
    · unfold ownAt ruleW
      split <;> simp [List.range_succ, stepD]
    rintro M' ls ⟨sp, r, hsp, rfl, fp, r2, hfp, rfl, r3, rfl, rfl, rfl⟩
    refine ⟨_, _, _, rfl, ?_⟩
    refine go_for (fun i => [(fp, .lst (((ownAt p t ++ looksK Γ p t i).map stepD).map .d)), (sp, .lst (kl ((kidK Γ t).take i)))])
      (fun i => [.d t.enc, .d (envD Γ), .d (.int p), .d (.bool h), .d t.node.enc, .d (.list (t.parts.map Tr.enc)), .no, .v (.ref sp), .v (.ref fp), .d (.int ((p + 1 + offK t i : Nat) : Int)), .no, .no, .no, .no, .no, .no])
      (it_enum (b_enumerate T) (ed_callR (ds := [.str t.node.word]) ((d__law_binds T).up (by omega)) hr (ea_cons (ed_word (ed_v 4)) ea_nil) ⟨t.node, rfl, rfl⟩)) (pg_tup rfl (pgs_cons (pg_name (i := 10) sc__law_look.nd rfl (.inl rfl)) (pgs_cons (pg_name (i := 11) sc__law_look.nd rfl (.inl rfl)) pgs_nil))) (by simp [looksK, kl]) ?_ (fun L i hi => ⟨_, tg_two 10 11, ?_⟩) ?_
    · simp [offK]
      rfl
    · rw [intsD_len, ← t.parts_len] at hi
      obtain ⟨s, G, kj, b, kd⟩ := kid_at hty hi
      have hb : (intsD t.node.binds).getD i .none = .int (b : Nat) := intsD_getD kd.bd
      rw [hb]
      have hsz := offK_le kd.part
      have hds := deep_part (List.mem_of_getElem? kd.part)
      have hG : G.length ≤ Γ.length + 1 := by rcases kd.how with ⟨_, e⟩ | ⟨_, x, _, e⟩ <;> rw [e] <;> simp
      refine go_asg (l := .d (envD G)) 12 sc__law_look.nd ?_ ?_
      · rcases kd.how with ⟨rfl, e⟩ | ⟨rfl, x, hx, e⟩
        · rw [e]
          exact ed_ifF (et_eqI (ed_v 11) ed_int) rfl (ed_v 1)
        · rw [e]
          exact ed_ifT (et_eqI (ed_v 11) ed_int) rfl (El.ed (el_cat (ds := [x.enc]) (fs := Γ.map Kd.enc) (ed_lst (ds := [x.enc]) (ea_cons (ed_callO [(sp, .lst (kl ((kidK Γ t).take i)))] [(fp, .lst (((ownAt p t ++ looksK Γ p t i).map stepD).map .d))] ((d__law_bound T).up (by omega)) hr (ea_cons (ed_v 4) (ea_cons (ed_v 7) ea_nil)) (List.Perm.swap _ _ _) ⟨sp, t.node, _, x, rfl, rfl, hx, rfl⟩ fun M' l' h => h) ea_nil)) (ed_v 1) (by simp; omega)))
      refine go_asg (l := .d (.bool (heldW t i))) 13 sc__law_look.nd (ed_is (ed_and (k := decide ((i : Int) = 0)) (k' := headHolds t) (ed_eqI (ed_v 10) ed_int) fun _ => ed_inS (ss := ["call", "first", "second"]) (ed_word (ed_v 4)) (ed_tup (ea_cons ed_str (ea_cons ed_str (ea_cons ed_str ea_nil))))) ?_) ?_
      · unfold heldW
        have : decide ((i : Int) = 0) = decide (i = 0) := by simp
        rw [this]
      refine go_tup (d := .tuple [kj.enc, stepsD (looks G (p + 1 + offK t i) (heldW t i) s), .int ((p + 1 + offK t (i + 1) : Nat) : Int)]) (ed_is (ed_callR (ds := [s.enc, envD G, .int ((p + 1 + offK t i : Nat) : Int), .bool (heldW t i)]) ih hr (ea_cons (ed_ixL (ds := t.parts.map Tr.enc) (ed_v 5) (ed_v 10) (atI_nat (by rw [List.getElem?_map, kd.part]; rfl))) (ea_cons (ed_v 12) (ea_cons (ed_v 9) (ea_cons (ed_v 13) ea_nil))))
        ⟨s, G, _, _, kj, rfl, by omega, by omega, by have := size_pos s; omega, kd.ty, rfl⟩) (by rw [show p + 1 + offK t (i + 1) = p + 1 + offK t i + s.size by rw [offK_succ kd.part]; omega])) (pg_tup rfl (pgs_cons (pg_name (i := 14) sc__law_look.nd rfl (.inl rfl)) (pgs_cons (pg_name (i := 15) sc__law_look.nd rfl (.inl rfl)) (pgs_cons (pg_name (i := 9) sc__law_look.nd rfl (.inl rfl)) pgs_nil)))) (tg_three 14 15 9) ?_
      refine go_append 1 7 (ed_v 7) rfl (ed_v 14) (by rw [kl_len, List.length_take]; omega) ?_
      have hlk := looksK_len (Γ := Γ) (p := p) (t := t) (i := i) (by omega)
      have hls := looks_len s G (p + 1 + offK t i) (heldW t i)
      have hown : (ownAt p t).length ≤ 1 := by unfold ownAt ruleW; split <;> simp
      refine go_extend (ds := (looks G (p + 1 + offK t i) (heldW t i) s).map stepD) 0 8 (ed_v 8) rfl (ed_v 15) (by simp only [List.length_map, List.length_append]; omega) ?_
      refine go_turnW ?_
      rw [kd.take, ← kl_app, looksK_succ, kd.lk]
      simp only [List.set_cons_zero, List.set_cons_succ, List.map_append, List.append_assoc]
    · rw [intsD_len, ← t.parts_len]
      have eK : (kidK Γ t).take t.parts.length = kidK Γ t := by rw [← kidK_len Γ t, List.take_length]
      rw [eK, Nat.add_assoc p 1, offK_all]
      refine go_asg (l := .d k.enc) 14 sc__law_look.nd (ed_callO [(sp, .lst (kl (kidK Γ t)))] [(fp, .lst (((ownAt p t ++ looksK Γ p t t.parts.length).map stepD).map .d))] ((d__law_kind T).up (by omega)) hr (ea_cons (ed_v 4) (ea_cons (ed_v 7) (ea_cons (ed_v 1) ea_nil))) (List.Perm.swap _ _ _) ⟨sp, t.node, _, Γ, k, rfl, rfl, kind_here hty, rfl⟩ fun M' l' h => h) ?_
      have hlk := looksK_len (Γ := Γ) (p := p) (t := t) (i := t.parts.length) (Nat.le_refl _)
      have hall := offK_all t
      have hown : (ownAt p t).length ≤ 1 := by unfold ownAt ruleW; split <;> simp
      have ek : kOf Γ t = k := kOf_eq hty
      have hlong : (isFP k && (!h && !isFB t)) = (isFP k && !h && !isFB t) := by cases isFP k <;> rfl
      have fin : ∀ (m : List (Nat × Str)), ownAt p t ++ looksK Γ p t t.parts.length ++ m = looks Γ p h t → Go (cxD P w K mg base "_law_look" sL_look N__law_look (He.ga K "_law_look") cdv A outer s H E) O [(fp, .lst (((ownAt p t ++ looksK Γ p t t.parts.length ++ m).map stepD).map .d)), (sp, .lst (kl (kidK Γ t)))]
          [.d t.enc, .d (envD Γ), .d (.int p), .d (.bool h), .d t.node.enc, .d (.list (t.parts.map Tr.enc)), .no, .v (.ref sp), .v (.ref fp), .d (.int ((p + t.size : Nat) : Int)), .no, .no, .no, .no, .d k.enc, .no] D ((defBody sL_look).drop 5) := fun m hm => by
        rw [hm]
        exact go_freeze 0 8 hfp (go_ret (ed_tup (ds := [k.enc, stepsD (looks Γ p h t), .int ((p + t.size : Nat) : Int)]) (ea_cons (ed_v 14) (ea_cons (ed_v 8) (ea_cons (ed_v 9) ea_nil)))) hq) rfl
      have hc : Et (cxD P w K mg base "_law_look" sL_look N__law_look (He.ga K "_law_look") cdv A outer s H E) O [(fp, .lst (((ownAt p t ++ looksK Γ p t t.parts.length).map stepD).map .d)), (sp, .lst (kl (kidK Γ t)))]
          [.d t.enc, .d (envD Γ), .d (.int p), .d (.bool h), .d t.node.enc, .d (.list (t.parts.map Tr.enc)), .no, .v (.ref sp), .v (.ref fp), .d (.int ((p + t.size : Nat) : Int)), .no, .no, .no, .no, .d k.enc, .no] (match (defBody sL_look).getD 4 (.Pass ⟨0, 0, 0, 0⟩) with | .If c _ _ _ => c | _ => .Constant .none 0 ⟨0, 0, 0, 0⟩) (isFP k && !h && !isFB t) := by
        rw [← hlong]
        exact et_w (ew_and (et_is (et_inS (ss := ["fun", "pair"]) (ed_kword (ed_v 14)) (ed_tup (ea_cons ed_str (ea_cons ed_str ea_nil)))) (by cases k <;> (simp only [Kd.word, isFP]; decide +kernel))) fun _ => ew_and (et_not (et_v (ed_v 3))) fun _ => ew_and1 (et_is (et_ninS (ss := ["fun", "both"]) (ed_word (ed_v 4)) (ed_tup (ea_cons ed_str (ea_cons ed_str ea_nil)))) (by cases t <;> (simp only [Tr.node, Nd.word, isFB]; decide +kernel))))
      cases e : (isFP k && !h && !isFB t) with
      | true =>
        rw [e] at hc
        refine go_take hc (go_append 0 8 (ed_v 8) rfl (l := .d (stepD (p, "long"))) (ed_tup (ds := [.int p, .str "long"]) (ea_cons (ed_v 2) (ea_cons ed_str ea_nil))) (by simp only [List.length_map, List.length_append]; omega) (go_thn ?_))
        have z := fin [(p, "long")] (by rw [looks_eq]; unfold longAt longs; rw [ek, e]; rfl)
        simp only [List.map_append, List.map_cons, List.map_nil] at z ⊢
        exact z
      | false =>
        rw [e] at hc
        refine go_skip hc ?_
        have z := fin [] (by rw [looks_eq]; unfold longAt longs; rw [ek, e]; rfl)
        rw [List.append_nil] at z
        exact z
end
end K32

set_option maxRecDepth 100000
set_option maxHeartbeats 4000000
namespace K32
open PySem L2
theorem kid_ctx {Γ G : List Kd} {t s : Tr} {j b : Nat} {kj : Kd} (q : KidAt Γ t j s G kj b) : ∃ c : C1, t = c.plug s ∧ c.pre.length = 1 + offK t j ∧ c.env Γ = G := by
  have h1 := q.part
  have h2 := q.env
  cases t with
  | name i => simp [Tr.parts] at h1
  | told i => simp [Tr.parts] at h1
  | fn A b => match j, h1, h2 with | 0, h1, h2 => (cases h1; cases h2; exact ⟨.fn A, rfl, rfl, rfl⟩)
  | first b => match j, h1, h2 with | 0, h1, h2 => (cases h1; cases h2; exact ⟨.first, rfl, rfl, rfl⟩)
  | second b => match j, h1, h2 with | 0, h1, h2 => (cases h1; cases h2; exact ⟨.second, rfl, rfl, rfl⟩)
  | left A b => match j, h1, h2 with | 0, h1, h2 => (cases h1; cases h2; exact ⟨.left A, rfl, rfl, rfl⟩)
  | right A b => match j, h1, h2 with | 0, h1, h2 => (cases h1; cases h2; exact ⟨.right A, rfl, rfl, rfl⟩)
  | next b => match j, h1, h2 with | 0, h1, h2 => (cases h1; cases h2; exact ⟨.next, rfl, rfl, rfl⟩)
  | call f a => match j, h1, h2 with
    | 0, h1, h2 => (cases h1; cases h2; exact ⟨.callL a, rfl, rfl, rfl⟩)
    | 1, h1, h2 => (cases h1; cases h2; exact ⟨.callR f, rfl, by simp [C1.pre, offK, Tr.parts, Tr.flat_len]; omega, rfl⟩)
  | both f a => match j, h1, h2 with
    | 0, h1, h2 => (cases h1; cases h2; exact ⟨.bothL a, rfl, rfl, rfl⟩)
    | 1, h1, h2 => (cases h1; cases h2; exact ⟨.bothR f, rfl, by simp [C1.pre, offK, Tr.parts, Tr.flat_len]; omega, rfl⟩)
  | lt f a => match j, h1, h2 with
    | 0, h1, h2 => (cases h1; cases h2; exact ⟨.ltA a, rfl, rfl, rfl⟩)
    | 1, h1, h2 => (cases h1; cases h2; exact ⟨.ltB f, rfl, by simp [C1.pre, offK, Tr.parts, Tr.flat_len]; omega, rfl⟩)
  | which x l r => match j, h1, h2 with
    | 0, h1, h2 => (cases h1; cases h2; exact ⟨.whS l r, rfl, rfl, rfl⟩)
    | 1, h1, h2 => (cases h1; cases h2; exact ⟨.whL x r, rfl, by simp [C1.pre, offK, Tr.parts, Tr.flat_len]; omega, rfl⟩)
    | 2, h1, h2 => (cases h1; cases h2; exact ⟨.whR x l, rfl, by simp [C1.pre, offK, Tr.parts, Tr.flat_len]; omega, rfl⟩)
  | turns A x l r => match j, h1, h2 with
    | 0, h1, h2 => (cases h1; cases h2; exact ⟨.tuN A l r, rfl, rfl, rfl⟩)
    | 1, h1, h2 => (cases h1; cases h2; exact ⟨.tuU A x r, rfl, by simp [C1.pre, offK, Tr.parts, Tr.flat_len]; omega, rfl⟩)
    | 2, h1, h2 => (cases h1; cases h2; exact ⟨.tuS A x l, rfl, by simp [C1.pre, offK, Tr.parts, Tr.flat_len]; omega, rfl⟩)
def StepOk (Γ : List Kd) (p q : Nat) (r : Str) (t : Tr) : Prop := ∀ C s, t = plugs C s → q = p + offs C → ((r = "long" ∧ isFP (kOf (envs Γ C) s) = true) ∨ (r = s.node.word ∧ (madeW s).isSome = true)) ∧ s.deep ≤ 59
theorem StepOk.kid {Γ G : List Kd} {t s : Tr} {j b p q : Nat} {r : Str} {kj : Kd} (h : StepOk Γ p q r t) (kd : KidAt Γ t j s G kj b) : StepOk G (p + 1 + offK t j) q r s := fun C u e1 e2 => by
  obtain ⟨c, g1, g2, g3⟩ := kid_ctx kd
  have z := h (c :: C) u (by rw [g1, e1]; rfl) (by simp only [offs]; omega)
  have e : envs Γ (c :: C) = envs G C := by show envs (c.env Γ) C = _; rw [g3]
  rw [e] at z
  exact z
theorem KidAt.sk {Γ G : List Kd} {t s : Tr} {j b p q : Nat} {r : Str} {kj : Kd} (kd : KidAt Γ t j s G kj b) : stepK Γ p q r t j = stepT G (p + 1 + offK t j) q r s := by
  unfold stepK
  rw [List.getD_eq_getElem?_getD, kd.env, List.getD_eq_getElem?_getD, kd.part]
  rfl
def R_lstin (n : Nat) : List PyData → PyData → Prop := fun ds d => ∃ (t : Tr) (Γ : List Kd) (p q : Nat) (r : Str) (k : Kd), ds = [t.enc, envD Γ, .int p, .int q, .str r] ∧ t.deep ≤ n ∧ t.size ≤ 1000 ∧ Γ.length + t.size ≤ 1100 ∧ ty Γ t = some k ∧ StepOk Γ p q r t ∧ d = .tuple [(stepT Γ p q r t).enc, .int (p + t.size : Nat), k.enc]
section
variable {P : Program} {w : World} {K : PySem.W.Frag} {mg : Str → Option Value} {base : Heap}
theorem d_lstin (T : Tx w K mg) : ∀ n, Def P w K mg base CX0 "_law_stepped_in" (n + 127) ["_law_tree_here", "_law_env", "_law_at", "_law_position", "_law_rule"] (spR K (R_lstin n)) := by
  intro n
  induction n with
  | zero =>
    refine def_R (f__law_stepped_in T) (g__law_stepped_in T) sc__law_stepped_in (fun _ _ _ _ _ _ us hl => match us, hl with | [_, _, _, _, _], _ => rfl) (fun ds d h => by obtain ⟨t, Γ, p, q, r, k, rfl, _⟩ := h; rfl) fun cdv A outer s H E hr ds d h O D hD hq => ?_
    obtain ⟨t, Γ, p, q, r, k, rfl, h, _⟩ := h
    cases t <;> simp only [Tr.deep] at h <;> omega
  | succ n ih =>
    refine def_R (f__law_stepped_in T) (g__law_stepped_in T) sc__law_stepped_in (fun _ _ _ _ _ _ us hl => match us, hl with | [_, _, _, _, _], _ => rfl) (fun ds d h => by obtain ⟨t, Γ, p, q, r, k, rfl, _⟩ := h; rfl) fun cdv A outer s H E hr ds d h O D hD hq => ?_
    obtain ⟨t, Γ, p, q, r, k, rfl, hd, hz, hzΓ, hty, hok, rfl⟩ := h
    have hp3 := parts_le t
    refine go_tup (ed_is (ed_v 0) (congrArg Lo.d t.enc_eq)) (pg_tup rfl (pgs_cons (pg_name (i := 5) sc__law_stepped_in.nd rfl (.inl rfl)) (pgs_cons (pg_name (i := 6) sc__law_stepped_in.nd rfl (.inl rfl)) pgs_nil))) (tg_two 5 6) ?_
    refine go_par3 7 8 9 sc__law_stepped_in.nd (ac_l (el_lst (ls := []) ea_nil) fun sp hsp => ac_l (el_lst (ls := []) ea_nil) fun fp hfp => ac_d (ed_add (ed_v 2) ed_int) ac_nil) ?_
    rintro M' ls ⟨sp, r1, hsp, rfl, fp, r2, hfp, rfl, r3, rfl, rfl, rfl⟩
    refine ⟨_, _, _, rfl, ?_⟩
    refine go_for (fun i => [(fp, .lst ((((List.range i).map (stepK Γ p q r t)).map Tr.enc).map .d)), (sp, .lst (kl ((kidK Γ t).take i)))])
      (fun i => [.d t.enc, .d (envD Γ), .d (.int p), .d (.int q), .d (.str r), .d t.node.enc, .d (.list (t.parts.map Tr.enc)), .v (.ref sp), .v (.ref fp), .d (.int ((p + 1 + offK t i : Nat) : Int)), .no, .no, .no, .no, .no])
      (it_enum (b_enumerate T) (ed_callR (ds := [.str t.node.word]) ((d__law_binds T).up (by omega)) hr (ea_cons (ed_word (ed_v 5)) ea_nil) ⟨t.node, rfl, rfl⟩)) (pg_tup rfl (pgs_cons (pg_name (i := 10) sc__law_stepped_in.nd rfl (.inl rfl)) (pgs_cons (pg_name (i := 11) sc__law_stepped_in.nd rfl (.inl rfl)) pgs_nil))) (by simp [kl]) ?_ (fun L i hi => ⟨_, tg_two 10 11, ?_⟩) ?_
    · simp [offK]
      rfl
    · rw [intsD_len, ← t.parts_len] at hi
      obtain ⟨s, G, kj, b, kd⟩ := kid_at hty hi
      have hb : (intsD t.node.binds).getD i .none = .int (b : Nat) := intsD_getD kd.bd
      rw [hb]
      have hsz := offK_le kd.part
      have hds := deep_part (List.mem_of_getElem? kd.part)
      have hG : G.length ≤ Γ.length + 1 := by rcases kd.how with ⟨_, e⟩ | ⟨_, x, _, e⟩ <;> rw [e] <;> simp
      refine go_asg (l := .d (envD G)) 12 sc__law_stepped_in.nd ?_ ?_
      · rcases kd.how with ⟨rfl, e⟩ | ⟨rfl, x, hx, e⟩
        · rw [e]
          exact ed_ifF (et_eqI (ed_v 11) ed_int) rfl (ed_v 1)
        · rw [e]
          exact ed_ifT (et_eqI (ed_v 11) ed_int) rfl (El.ed (el_cat (ds := [x.enc]) (fs := Γ.map Kd.enc) (ed_lst (ds := [x.enc]) (ea_cons (ed_callO [(sp, .lst (kl ((kidK Γ t).take i)))] [(fp, .lst ((((List.range i).map (stepK Γ p q r t)).map Tr.enc).map .d))] ((d__law_bound T).up (by omega)) hr (ea_cons (ed_v 5) (ea_cons (ed_v 7) ea_nil)) (List.Perm.swap _ _ _) ⟨sp, t.node, _, x, rfl, rfl, hx, rfl⟩ fun M' l' h => h) ea_nil)) (ed_v 1) (by simp; omega)))
      refine go_tup (d := .tuple [(stepT G (p + 1 + offK t i) q r s).enc, .int ((p + 1 + offK t (i + 1) : Nat) : Int), kj.enc]) (ed_is (ed_callR (ds := [s.enc, envD G, .int ((p + 1 + offK t i : Nat) : Int), .int q, .str r]) ih hr (ea_cons (ed_ixL (ds := t.parts.map Tr.enc) (ed_v 6) (ed_v 10) (atI_nat (by rw [List.getElem?_map, kd.part]; rfl))) (ea_cons (ed_v 12) (ea_cons (ed_v 9) (ea_cons (ed_v 3) (ea_cons (ed_v 4) ea_nil)))))
        ⟨s, G, _, _, _, kj, rfl, by omega, by omega, by have := size_pos s; omega, kd.ty, hok.kid kd, rfl⟩) (by rw [show p + 1 + offK t (i + 1) = p + 1 + offK t i + s.size by rw [offK_succ kd.part]; omega])) (pg_tup rfl (pgs_cons (pg_name (i := 13) sc__law_stepped_in.nd rfl (.inl rfl)) (pgs_cons (pg_name (i := 9) sc__law_stepped_in.nd rfl (.inl rfl)) (pgs_cons (pg_name (i := 14) sc__law_stepped_in.nd rfl (.inl rfl)) pgs_nil)))) (tg_three 13 9 14) ?_
      refine go_append 1 7 (ed_v 7) rfl (ed_v 14) (by rw [kl_len, List.length_take]; omega) ?_
      refine go_append 0 8 (ed_v 8) rfl (ed_v 13) (by simp only [List.length_map, List.length_range]; omega) ?_
      refine go_turnW ?_
      rw [kd.take, ← kl_app, List.range_succ, ← kd.sk]
      simp only [List.set_cons_zero, List.set_cons_succ, List.map_append, List.append_assoc, List.map_cons, List.map_nil]
    · rw [intsD_len, ← t.parts_len]
      have eK : (kidK Γ t).take t.parts.length = kidK Γ t := by rw [← kidK_len Γ t, List.take_length]
      rw [eK, Nat.add_assoc p 1, offK_all]
      refine go_asg (l := .d k.enc) 14 sc__law_stepped_in.nd (ed_callO [(sp, .lst (kl (kidK Γ t)))] [(fp, .lst ((((List.range t.parts.length).map (stepK Γ p q r t)).map Tr.enc).map .d))] ((d__law_kind T).up (by omega)) hr (ea_cons (ed_v 5) (ea_cons (ed_v 7) (ea_cons (ed_v 1) ea_nil))) (List.Perm.swap _ _ _) ⟨sp, t.node, _, Γ, k, rfl, rfl, kind_here hty, rfl⟩ fun M' l' h => h) ?_
      have ek : kOf Γ t = k := kOf_eq hty
      refine go_freeze 0 8 hfp (go_ret (ed_tup (ds := [(stepT Γ p q r t).enc, .int ((p + t.size : Nat) : Int), k.enc]) (ea_cons (ed_if (k := decide ((p : Int) = (q : Int))) (et_eqI (ed_v 2) (ed_v 3)) (fun e => ?_) (fun e => ?_)) (ea_cons (ed_v 9) (ea_cons (ed_v 14) ea_nil)))) hq) rfl
      · have e : p = q := by have := of_decide_eq_true e; omega
        have hk := hok [] t rfl (by simp [offs]; omega)
        refine ed_is (ed_callR (ds := [t.enc, .str r, k.enc]) ((d__law_made T).up (by omega)) hr (ea_cons (ed_v 0) (ea_cons (ed_v 4) (ea_cons (ed_v 14) ea_nil))) ⟨t, r, k, rfl, ?_, hk.2, rfl⟩) ?_
        · rw [← ek]; exact hk.1
        · rw [stepT_enc, if_pos e, ek]
      · have e : p ≠ q := by have := of_decide_eq_false e; omega
        rw [stepT_enc, if_neg e]
        exact ed_tup (ds := [t.node.enc, .list (((List.range t.parts.length).map (stepK Γ p q r t)).map Tr.enc)]) (ea_cons (ed_v 5) (ea_cons (ed_v 8) ea_nil))
def R_lstepped : List PyData → PyData → Prop := fun ds d => ∃ (t : Tr) (q : Nat) (r : Str) (k : Kd), ds = [t.enc, .int q, .str r] ∧ t.size ≤ 40 ∧ ty [] t = some k ∧ StepOk [] 0 q r t ∧ d = (stepT [] 0 q r t).enc
theorem d__law_stepped (T : Tx w K mg) : Def P w K mg base CX0 "_law_stepped" 168 ["_law_tree_here", "_law_position", "_law_rule"] (spR K R_lstepped) := by
  refine def_R (f__law_stepped T) (g__law_stepped T) sc__law_stepped (fun _ _ _ _ _ _ us hl => match us, hl with | [_, _, _], _ => rfl) (fun ds d h => by obtain ⟨t, q, r, k, rfl, hz, hty, hok, rfl⟩ := h; rfl) fun cdv A outer s H E hr ds d h O D hD hq => ?_
  obtain ⟨t, q, r, k, rfl, hz, hty, hok, rfl⟩ := h
  have hdl := deep_le t
  exact go_ret (ed_ixT (ds := [(stepT [] 0 q r t).enc, .int ((0 + t.size : Nat) : Int), k.enc]) (ed_callR (ds := [t.enc, envD [], .int (0 : Nat), .int q, .str r]) ((d_lstin T 40).up (by decide)) hr (ea_cons (ed_v 0) (ea_cons (ed_lst (ds := []) ea_nil) (ea_cons ed_int (ea_cons (ed_v 1) (ea_cons (ed_v 2) ea_nil))))) ⟨t, [], 0, q, r, k, rfl, by omega, by omega, by simp; omega, hty, hok, rfl⟩) ed_int) hq
end
end K32

set_option maxRecDepth 100000
set_option maxHeartbeats 4000000
/-! # sorted(xs) of pairs of a number and a text: a new list of the same pairs, in some order -/
namespace KS
open PySem PyProof.Rows Srt
section
variable {prog : Program} {w : World} {A : Around} {E : Value → Shared → Prop} {s : Shared}
def IsPS (h : Heap) (v : Value) (x : Int) (y : Str) : Prop := ∃ a o t u n, v = .ref a ∧ h.get? a = some o ∧ o.cls = .type "tuple" ∧ o.data = .seq #[.int x t, .str y u] n
theorem IsPS.keeps {h h' : Heap} {v : Value} {x : Int} {y : Str} (p : IsPS h v x y) (k : ∀ b o, h.get? b = some o → o.cls = .type "tuple" → h'.get? b = some o) : IsPS h' v x y := by
  obtain ⟨a, o, t, u, n, e, ho, hc, hd⟩ := p
  exact ⟨a, o, t, u, n, e, k _ _ ho hc, hc, hd⟩
theorem ps_tot {vs : List Value} (hp : ∀ v ∈ vs, ∃ x y, IsPS s.heap v x y) : Tot prog w A s (tuples' true) (fun p => p.1 ∈ vs) := by
  intro p q hm hm'
  obtain ⟨x, y, a, o, t, u, n, e, ho, hc, hd⟩ := hp _ hm
  obtain ⟨x', y', a', o', t', u', n', e', ho', hc', hd'⟩ := hp _ hm'
  rw [e, e']
  refine ⟨if x = x' then (if (y == y') then false else decide (y.cps.toList < y'.cps.toList)) else decide (x < x'), ?_⟩
  refine PySem.W.kat_lt ho hd ho' hd' ?_
  show PySem.W.KatLex prog w A true (decide (2 < 2)) _ [(.int x t, .int x' t'), (.str y u, .str y' u')] 0 s
  refine PySem.W.kat_cons (SeqAt.EqAt.int_int x t x' t' prog w _ _ ?_)
  refine PySem.W.kat_go (fun e1 => ?_) (fun e1 => ?_)
  · have ex : x = x' := by simpa using e1
    refine PySem.W.kat_yes (PySem.W.kat_cons (SeqAt.EqAt.str_str y u y' u' prog w _ _ ?_))
    refine PySem.W.kat_go (fun e2 => ?_) (fun e2 => ?_)
    · have e3 : (if x = x' then (if (y == y') then false else decide (y.cps.toList < y'.cps.toList)) else decide (x < x')) = false := by rw [if_pos ex, if_pos e2]
      exact PySem.W.kat_yes (PySem.W.kat_nil ⟨rfl, e3.symm⟩)
    · have e3 : (if x = x' then (if (y == y') then false else decide (y.cps.toList < y'.cps.toList)) else decide (x < x')) = decide (y.cps.toList < y'.cps.toList) := by rw [if_pos ex, if_neg (by rw [e2]; exact Bool.false_ne_true)]
      refine PySem.W.kat_no (PySem.W.kat_one _ _ (PyProof.Rows.lt_str ?_))
      exact (show s = s ∧ decide (y.cps.toList < y'.cps.toList) = _ from ⟨rfl, e3.symm⟩)
  · have ex : ¬ x = x' := by simpa using e1
    have e3 : (if x = x' then (if (y == y') then false else decide (y.cps.toList < y'.cps.toList)) else decide (x < x')) = decide (x < x') := by rw [if_neg ex]
    exact PySem.W.kat_no (oneLt_int ⟨rfl, e3.symm⟩)
theorem ps_firsts {h : Heap} : ∀ {vs : List Value}, (∀ v ∈ vs, ∃ x y, IsPS h v x y) → ∃ fs : List Value, PySem.W.KatTups h vs fs ∧ fs.length = vs.length ∧ ∀ f ∈ fs, ∃ x t, f = Value.int x t
  | [], _ => ⟨[], PySem.W.KatTups.nil, rfl, fun _ hm => by simp at hm⟩
  | v :: vs, hp => by
    obtain ⟨fs, h1, h2, h3⟩ := ps_firsts (vs := vs) fun v' hm => hp v' (List.mem_cons_of_mem _ hm)
    obtain ⟨x, y, a, o, t, u, n, e, ho, hc, hd⟩ := hp v (List.mem_cons_self ..)
    subst e
    refine ⟨.int x t :: fs, PySem.W.KatTups.cons ho hc hd rfl h1, by rw [List.length_cons, List.length_cons, h2], fun f hm => ?_⟩
    rcases List.mem_cons.mp hm with rfl | hm
    · exact ⟨x, t, rfl⟩
    · exact h3 f hm
theorem ps_sortable {a : Addr} {vs : List Value} (h0 : 0 < vs.length) (hp : ∀ v ∈ vs, ∃ x y, IsPS s.heap v x y) (ha : ∀ o, s.heap.get? a = some o → o.cls ≠ .type "tuple") : Sortable prog w A s a vs := by
  intro h' keep
  have hp' : ∀ v ∈ vs, ∃ x y, IsPS h' v x y := fun v hm => by
    obtain ⟨x, y, p⟩ := hp v hm
    exact ⟨x, y, p.keeps fun b o e c => keep b o (fun z => by subst z; exact ha o e c) e⟩
  obtain ⟨fs, h1, h2, h3⟩ := ps_firsts hp'
  refine ⟨tuples' true, fun Q E hq => ?_, ps_tot hp'⟩
  refine PySem.W.kat_kind (T := .type "int") h1 (by omega) (fun f hm => ?_) (by rfl) ?_
  · obtain ⟨x, t, rfl⟩ := h3 f hm
    exact PySem.W.Looks.now
  · have e : (Value.type "int" != Value.type "tuple") = true := by first | decide +kernel | rfl | decide
    rw [e]
    exact hq
theorem sorted_ps {l : Addr} {vs : List Value} {Q : Value → Shared → Prop} (hl : s.heap.IsList l vs.toArray) (hz : vs.length ≤ sizeLine) (hp : ∀ v ∈ vs, ∃ x y, IsPS s.heap v x y)
    (h : ∀ (h' : Heap) (d : Addr) (out : List Value), out.Perm vs → (∀ b o, s.heap.get? b = some o → h'.get? b = some o) → s.heap.objs.size ≤ d → (∃ n, h'.get? d = some (seqObj "list" out.toArray n)) → Q (.ref d) { s with heap := h' }) :
    wpAny (model prog w) A (call (.builtin "sorted") [.ref l]) Q E s := by
  refine sorted_any hl hz (fun h2 h₁ a ha k => ?_) fun out ho => ?_
  · refine ps_sortable (s := { s with heap := h₁ }) (by omega) (fun v hm => ?_) fun o e => ?_
    · obtain ⟨x, y, p⟩ := hp v hm
      exact ⟨x, y, p.keeps fun b o e _ => (k b o e).2⟩
    · have e' : some o = some (seqObj "list" vs.toArray 0) := e.symm.trans ha
      cases e'
      intro c
      exact absurd (Value.type.inj c) (by decide)
  · exact h _ _ out ho (fun b o e => sortedAll_old e) (Nat.le_succ _) (sortedAll_at s.heap vs out.toArray)
end
end KS
namespace KS
open PySem PySem.Spec PyProof.Rows L2
section
variable {X : Cx}
def rSortedPS (K : PySem.W.Frag) : List V → Hp → VK → Prop := fun vs H Q => ∃ a xs, vs = [V.ref a] ∧ SqL K H a xs ∧ (∀ x ∈ xs, ∃ t i j, x = V.ref t ∧ SqT K H t [.int i, .str j]) ∧
  ∀ ys p, ys.Perm xs → H p = none → Q (.ref p) (upd H p (.lst ys))
theorem cr_sortedPS : CallR X (.builtin "sorted") (rSortedPS X.K) := by
  intro pins s σ H vs us Q I r h
  obtain ⟨a, xs, rfl, hs, hx, q⟩ := h
  obtain ⟨its, rv, hl, hz⟩ := I.list hs
  obtain ⟨u, rfl, ru⟩ := vals1 r
  obtain rfl : u = Value.ref a := ru
  obtain ⟨e1, e2⟩ := refs_back rv fun x m => by
    obtain ⟨t, _, _, e, _⟩ := hx x m
    exact ⟨t, e⟩
  refine sorted_ps hl.isList (by rw [← rv.length]; exact hz) (fun v hv => ?_) fun h' d out hp k hd hn => ?_
  · obtain ⟨t, rfl⟩ := e2 v hv
    have hm : V.ref t ∈ xs := by rw [e1]; exact List.mem_map.mpr ⟨_, hv, rfl⟩
    obtain ⟨t', i, j, e, ht⟩ := hx _ hm
    cases e
    obtain ⟨its2, r2, ⟨o, ho, hc, n, hd⟩, _⟩ := I.tuple ht
    obtain ⟨u1, u2, rfl, ri, rj⟩ := vals2 r2
    obtain ⟨t1, rfl⟩ := ri
    obtain ⟨t2, rfl⟩ := rj
    exact ⟨i, j, t, o, t1, t2, n, rfl, ho, hc, hd⟩
  · have h3 : ∀ u ∈ out, ∃ a, u = Value.ref a := fun u hu => e2 u (hp.mem_iff.mp hu)
    obtain ⟨n, hn⟩ := hn
    refine ⟨.ref d, upd H d (.lst (out.map backV)), I.laid (t' := s.toks) k hd ⟨?_, out, n, vals_back h3, hn⟩, rfl, q _ d ?_ (I.hok.fresh hd)⟩
    · rw [List.length_map, hp.length_eq, ← rv.length]; exact hz
    · rw [e1]; exact hp.map backV
end
end KS
namespace K32
open PySem L2
section
variable {X : Cx} {O : Og} {M : Owns} {ρ : List Lo} {a : Expr} {pos p1 : Pos}
theorem da_step {K : PySem.W.Frag} {B : Hp} {v : V} {q : Nat × Str} (h : Da K B v (stepD q)) : ∃ t, v = .ref t ∧ SqT K B t [.int q.1, .str q.2] := by
  cases h with
  | tup h1 h2 =>
    cases h2 with
    | cons g1 g2 =>
      cases g1
      cases g2 with
      | cons g3 g4 =>
        cases g3
        cases g4
        exact ⟨_, rfl, h1⟩
theorem ev_sortedPS {l : List (Nat × Str)} (hm : X.mg "sorted" = none) (ha : Ed X O M ρ a (.d (stepsD l))) (hg : Gl X "sorted" := by rfl) (hs : starEach [a] X.env = (false, eval a X.env) :: starEach [] X.env := by rfl) :
    Ev X O M ρ (.Call (.Name "sorted" p1) [a] [] pos) (fun lo => ∃ ys : List (Nat × Str), ys.Perm l ∧ lo = .d (stepsD ys)) := fun B σ H S Q q =>
  wE_of (pe_callB KS.cr_sortedPS hg hm (by decide +kernel) pa_w (by decide) (by decide) hs rfl) ((ea_cons ha ea_nil hs) B σ H S _ fun vs B1 H1 e1 S1 r => by
    cases r with
    | cons r1 r =>
      cases r
      have r1 : Da X.K B1 _ (stepsD l) := r1
      cases r1 with
      | lst h1 h2 =>
        refine ⟨_, _, rfl, SqL.of (S1.bh _ _ h1), fun x hx => ?_, fun ys p hp hn => ?_⟩
        · obtain ⟨i, hi⟩ := List.getElem?_of_mem hx
          obtain ⟨d, e2, e3⟩ := h2.of_get hi
          rw [List.getElem?_map] at e2
          cases e4 : l[i]? with
          | none => rw [e4] at e2; cases e2
          | some q4 =>
            rw [e4] at e2
            cases e2
            obtain ⟨t, rfl, ht⟩ := da_step e3
            exact ⟨t, _, _, rfl, sqt_mono S1.bh ht⟩
        · obtain ⟨es, p1, p2⟩ := DaAll.perm hp h2
          obtain ⟨zs, z1, z2⟩ : ∃ zs : List (Nat × Str), zs.Perm l ∧ es = zs.map stepD := by
            have z : ∀ {es : List PyData} {l : List (Nat × Str)}, es.Perm (l.map stepD) → ∃ zs : List (Nat × Str), zs.Perm l ∧ es = zs.map stepD := fun {es l} h => by
              generalize hm : l.map stepD = m at h
              induction h generalizing l with
              | nil => cases l with
                | nil => exact ⟨[], .nil, rfl⟩
                | cons _ _ => cases hm
              | cons x h ih => cases l with
                | nil => cases hm
                | cons y r =>
                  injection hm with e1 e2
                  obtain ⟨zs, g1, g2⟩ := ih e2
                  exact ⟨y :: zs, g1.cons _, by rw [g2, ← e1]; rfl⟩
              | swap x y m => cases l with
                | nil => cases hm
                | cons a r => cases r with
                  | nil => cases hm
                  | cons b r =>
                    injection hm with e1 e2
                    injection e2 with e2 e3
                    exact ⟨b :: a :: r, .swap _ _ _, by rw [← e1, ← e2, ← e3]; rfl⟩
              | trans h1 h2 ih1 ih2 =>
                obtain ⟨zs, g1, g2⟩ := ih2 hm
                obtain ⟨ws, g3, g4⟩ := ih1 g2.symm
                exact ⟨ws, g3.trans g1, g4⟩
            exact z p1
          subst z2
          have hB : B1 p = none := by
            cases w : B1 p with
            | none => rfl
            | some u => rw [S1.bh _ _ w] at hn; cases hn
          have hb : Same B1 (upd B1 p (.lst ys)) := fun b u z => by rw [upd_ne (ne_of_none z hB)]; exact z
          exact q (.ref p) (.d (stepsD zs)) (upd B1 p (.lst ys)) _ ⟨zs, z1, rfl⟩ (e1.trans hb) (S1.newD hn) (.lst upd_same (p2.mono hb)))
end
end K32

set_option maxRecDepth 100000
set_option maxHeartbeats 4000000
namespace K32
open PySem L2
def PotOk (a b : Int) : Prop := 0 ≤ a ∧ a.natAbs < 2 ^ 1048600 ∧ 0 ≤ b ∧ b < 2147483648
def potL (a b : Int) : Own := .lst [.d (.int a), .d (.int b)]
theorem upd_self' {H : Hp} {a : Addr} {o : HO} (h : H a = some o) : upd H a o = H := by
  funext b
  by_cases e : b = a
  · rw [e, upd_same, h]
  · rw [upd_ne e]
section
variable {X : Cx} {O : Og} {M : Owns} {ρ : List Lo} {e a b c : Expr} {es : List Expr} {l la lb : Lo} {pos p1 p2 p3 : Pos} {D : Ends} {st : Stmt} {rest sts : List Stmt} {P : Post} {p : Addr}
theorem Sit.reown {K : PySem.W.Frag} {B H : Hp} {σ : L2.St} (S : Sit K O B M ρ σ H) (j : Nat) {w w' : Own} (hj : M[j]? = some (p, w)) (h : ∀ o, OwnOk K B w o → OwnOk K B w' o) : Sit K O B (M.set j (p, w')) ρ σ H := by
  obtain ⟨_, ⟨o, h2, h3⟩, _⟩ := S.own _ (List.mem_of_getElem? hj)
  have z := S.write j hj (h o h3)
  rw [upd_self' h2] at z
  exact z
theorem go_unpot (j : Nat) (hj : M[j]? = some (p, .pot)) (k : ∀ a b : Int, PotOk a b → Go X O (M.set j (p, potL a b)) ρ D sts) : Go X O M ρ D sts := fun B σ H S => by
  obtain ⟨_, ⟨o, h2, a, b, rfl, h3⟩, _⟩ := S.own _ (List.mem_of_getElem? hj)
  refine k a b h3 B σ H ?_
  have z := S.write j hj (w' := potL a b) (o := .lst [.int a, .int b]) ⟨_, rfl, .cons (.int a) (.cons (.int b) .nil)⟩
  rw [upd_self' h2] at z
  exact z
theorem pot_of {K : PySem.W.Frag} {B : Hp} {a b : Int} {o : HO} (h : PotOk a b) (q : OwnOk K B (potL a b) o) : OwnOk K B .pot o := by
  obtain ⟨xs, rfl, q⟩ := q
  cases q with
  | cons q1 q =>
    cases q with
    | cons q2 q =>
      cases q
      have q1 : Da K B _ (.int a) := q1
      have q2 : Da K B _ (.int b) := q2
      cases q1
      cases q2
      exact ⟨a, b, rfl, h⟩
theorem RetO.repot {K : PySem.W.Frag} (h : RetO K O D P) {a b : Int} (hp : PotOk a b) : RetO K O D (fun M' l => M' = [(p, potL a b)] ∧ P [(p, .pot)] l) := fun B H M ρ σ v l S r f => by
  obtain ⟨rfl, f⟩ := f
  exact h B H _ ρ σ v l (S.reown 0 (w' := .pot) rfl fun o q => pot_of hp q) r f
theorem ed_int1 {i : Int} (hm : X.mg "int" = none) (h : Ed X O M ρ e (.d (.int i))) (hg : Gl X "int" := by rfl) (hs : starEach [e] X.env = (false, eval e X.env) :: starEach [] X.env := by rfl) : Ed X O M ρ (.Call (.Name "int" p1) [e] [] pos) (.d (.int i)) :=
  ed_callT call_int1 hm (ea_cons h ea_nil hs) (fun B σ H S vs r Q q => by
    cases r with
    | cons r1 r2 =>
      cases r2
      have r1 : Da X.K B _ (.int i) := r1
      cases r1
      exact .inl ⟨i, rfl, q _ B H (Same.refl _) S (.int _)⟩) (by decide +kernel) hg (by decide) (by decide) hs
theorem ed_abs {i : Int} (hm : X.mg "abs" = none) (h : Ed X O M ρ e (.d (.int i))) (hg : Gl X "abs" := by rfl) (hs : starEach [e] X.env = (false, eval e X.env) :: starEach [] X.env := by rfl) : Ed X O M ρ (.Call (.Name "abs" p1) [e] [] pos) (.d (.int (if i < 0 then -i else i))) :=
  ed_callB call_abs hm (ea_cons h ea_nil hs) (fun B σ H S vs r Q q => by
    cases r with
    | cons r1 r2 =>
      cases r2
      have r1 : Da X.K B _ (.int i) := r1
      cases r1
      exact ⟨i, rfl, q _ B H (Same.refl _) S (.int _)⟩) (by decide +kernel) hg (by decide) (by decide) hs
theorem ed_mul {i k : Int} (hc : CMul i k) (ha : Ed X O M ρ a (.d (.int i))) (hb : Ed X O M ρ b (.d (.int k))) : Ed X O M ρ (.BinOp a .Mult b pos) (.d (.int (i * k))) := ed_op op_mul ha hb (rd_intC hc)
theorem ed_mod {i k : Int} (hc : 0 < k) (ha : Ed X O M ρ a (.d (.int i))) (hb : Ed X O M ρ b (.d (.int k))) : Ed X O M ρ (.BinOp a .Mod b pos) (.d (.int (i % k))) := ed_op op_mod ha hb (rd_intC (C := fun _ j => 0 < j) hc)
theorem ed_fdiv {i k : Int} (hc : CDiv i k) (ha : Ed X O M ρ a (.d (.int i))) (hb : Ed X O M ρ b (.d (.int k))) : Ed X O M ρ (.BinOp a .FloorDiv b pos) (.d (.int (i / k))) := ed_op op_fdiv ha hb (rd_intC hc)
theorem ed_divmod {i k : Int} (hc : CDiv i k) (hm : X.mg "divmod" = none) (ha : Ed X O M ρ a (.d (.int i))) (hb : Ed X O M ρ b (.d (.int k))) (hg : Gl X "divmod" := by rfl)
    (hs : starEach [a, b] X.env = (false, eval a X.env) :: starEach [b] X.env := by rfl) (hs2 : starEach [b] X.env = (false, eval b X.env) :: starEach [] X.env := by rfl) (hpl : (backTo pos (starEach [b] X.env)).any (·.1) = false := by rfl) : Ed X O M ρ (.Call (.Name "divmod" p1) [a, b] [] pos) (.d (.tuple [.int (i / k), .int (i % k)])) :=
  ed_callB call_divmod hm (ea_cons ha (ea_cons hb ea_nil hs2) hs) (fun B σ H S vs r Q q => by
    cases r with
    | cons r1 r =>
      cases r with
      | cons r2 r =>
        cases r
        have r1 : Da X.K B _ (.int i) := r1
        have r2 : Da X.K B _ (.int k) := r2
        cases r1
        cases r2
        refine ⟨i, k, rfl, hc, fun p hp => ?_⟩
        exact q _ _ _ (fun b u e => by
          have hB : B p = none := by
            cases w : B p with
            | none => rfl
            | some u => rw [S.bh _ _ w] at hp; cases hp
          rw [upd_ne (ne_of_none e hB)]; exact e) (S.newD hp) (.tup (SqT.of upd_same) (.cons (.int _) (.cons (.int _) .nil)))) (by decide +kernel) hg (by decide) (by decide) hs hpl
/-- l[i], y = e: l an own list, e a pair -/
theorem go_setTwo (j i : Nat) {y : Str} {ls : List Lo} {o ix : Expr} {q : Nat} {p4 py tp : Pos} {tk : Nat} {d d' : PyData} (nd : X.N.Nodup) (he : Ed X O M ρ e (.d (.tuple [d, d']))) (ho : Ed X O M ρ o (.v (.ref p))) (hj : M[j]? = some (p, .lst ls)) (hix : Ed X O M ρ ix (.d (.int q))) (hq : q < ls.length)
    (hg : PG X (.Tuple [.Subscript o ix p4, .Name y py] tk tp) (gTup X.K 2 (gCons (gSub (wE X o) (wE X ix) rSetL) (gCons (gName i) gNil)))) (k : Go X O (M.set j (p, .lst (ls.set q (.d d)))) (ρ.set i (.d d')) D rest)
    (hs : swapsWithSole [.Tuple [.Subscript o ix p4, .Name y py] tk tp] e pos.line X.env = pure false := by rfl) (h1a : (assignEach [.Tuple [.Subscript o ix p4, .Name y py] tk tp] X.env).map (·.2) = [assign (.Tuple [.Subscript o ix p4, .Name y py] tk tp) X.env] := by rfl) (hw : swappedStores [.Tuple [.Subscript o ix p4, .Name y py] tk tp] e X.env = pure none := by rfl) :
    Go X O M ρ D (.Assign [.Tuple [.Subscript o ix p4, .Name y py] tk tp] e pos :: rest) :=
  go_cons fun B σ H S => wS_of (ps_asg pe_w hg hs hw h1a) (he B σ H S _ fun v B1 H1 e1 S1 r1 => by
    have r1 : Da X.K B1 v (.tuple [d, d']) := r1
    cases r1 with
    | tup h1 h2 =>
      cases h2 with
      | cons h2 h3 =>
        cases h3 with
        | cons h3 h4 =>
          cases h4
          refine ⟨_, _, rfl, sqt_mono S1.bh h1, rfl, _, _, rfl, ?_⟩
          refine ho B1 σ H1 S1 _ fun y B2 H2 e2 S2 r2 => ?_
          have ev : y = .ref p := r2
          subst ev
          refine hix B2 σ H2 S2 _ fun z B3 H3 e3 S3 r3 => ?_
          have r3 : Da X.K B3 z (.int q) := r3
          cases r3
          obtain ⟨_, ⟨_, g2, xs, rfl, g3⟩, _⟩ := S3.own _ (List.mem_of_getElem? hj)
          have hl := Paired.len g3
          refine ⟨p, xs, q, q, rfl, rfl, g2, ?_, ?_⟩
          · unfold ixN
            rw [if_pos (by omega), if_pos (by omega)]
            simp
          · refine ⟨_, _, rfl, rfl, ?_⟩
            exact k B3 _ _ ((S3.write j hj (w' := .lst (ls.set q (.d d))) ⟨_, rfl, Paired.set2 (F := fun v l => LoOk X.K B3 (some v) l) (show LoOk X.K B3 (some _) (.d d) from (h2.mono e2).mono e3) q g3⟩).slot i (l := .d d') ((h3.mono e2).mono e3)))
/-- a drawn place in data -/
theorem ev_ixL {ds : List PyData} {Φ : Lo → Prop} (ha : Ed X O M ρ a (.d (.list ds))) (hb : Ev X O M ρ b Φ) (h : ∀ l, Φ l → ∃ i : Nat, i < ds.length ∧ l = .d (.int i)) (hs : PlainIx b := by exact fun _ _ => rfl) : Ev X O M ρ (.Subscript a b pos) (fun l => ∃ d ∈ ds, l = .d d) :=
  fun B σ H S Q q => wE_of (pe_ix ix_list pe_w pe_w hs) (ha B σ H S _ fun x B1 H1 e1 S1 r1 => hb B1 σ H1 S1 _ fun y l B2 H2 f e2 S2 r2 => by
    obtain ⟨i, hi, rfl⟩ := h l f
    have r2 : Da X.K B2 y (.int i) := r2
    have r1 : Da X.K B1 x (.list ds) := r1
    refine rd_ixL (ds := ds) (i := i) (d := ds[i]) (atI_nat (List.getElem?_eq_getElem hi)) B2 σ H2 S2 x y (r1.mono e2) r2 Q fun v B3 H3 e3 S3 r3 => ?_
    exact q v (.d ds[i]) B3 H3 ⟨ds[i], List.getElem_mem hi, rfl⟩ ((e1.trans e2).trans e3) S3 r3)
end
section
variable {P : Program} {w : World} {K : PySem.W.Frag} {mg : Str → Option Value} {base : Heap}
def R_draw : Owns → List Lo → Post → Prop := fun M ls Po => ∃ (p : Addr) (n : Nat), M = [(p, .pot)] ∧ ls = [.v (.ref p), .d (.int n)] ∧ 1 ≤ n ∧ n ≤ 10000 ∧ Po = fun M' l => M' = [(p, .pot)] ∧ ∃ i : Nat, i < n ∧ l = .d (.int i)
def R_pick : Owns → List Lo → Post → Prop := fun M ls Po => ∃ (p : Addr) (ds : List PyData), M = [(p, .pot)] ∧ ls = [.v (.ref p), .d (.list ds)] ∧ ds ≠ [] ∧ ds.length ≤ 10000 ∧ Po = fun M' l => M' = [(p, .pot)] ∧ ∃ d ∈ ds, l = .d d
theorem div_pot {a b : Int} {n : Nat} (h : PotOk a b) (hn : 1 ≤ n) : PotOk (a / (n : Int)) b := by
  obtain ⟨h1, h2, h3⟩ := h
  have g1 : 0 ≤ a / (n : Int) := Int.ediv_nonneg h1 (by omega)
  have g2 : a / (n : Int) ≤ a := Int.ediv_le_self _ h1
  exact ⟨g1, by omega, h3⟩
theorem d__law_draw (T : Tx w K mg) : Def P w K mg base CX0 "_law_draw" 1 ["_law_pot_here", "_law_sides"] (spO K R_draw) := by
  refine def_O (f__law_draw T) (g__law_draw T) sc__law_draw (fun _ _ _ _ _ _ us hl => match us, hl with | [_, _], _ => rfl) (fun M ls Po h => by obtain ⟨p, n, rfl, rfl, h1, h2, rfl⟩ := h; rfl) fun cdv A outer s H E hr M ls Po h O D hD hq => ?_
  obtain ⟨p, n, rfl, rfl, h1, h2, rfl⟩ := h
  refine go_unpot 0 rfl fun a b hp => ?_
  have rd0 : ∀ {D' : Ends} , True := fun {_} => trivial
  refine go_if (k := decide ((0 : Int) < a)) (et_gt (ed_ixO (ed_v 0) (.head _) ed_int rfl) ed_int) (fun e => ?_) (fun e => ?_)
  · refine go_setTwo 0 2 (q := 0) sc__law_draw.nd (ed_divmod (i := a) (k := (n : Int)) ⟨by omega, by omega⟩ (b_divmod T) (ed_ixO (ed_v 0) (.head _) ed_int rfl) (ed_v 1)) (ed_v 0) rfl ed_int (by simp) (pg_tup rfl (pgs_cons (pg_sub pe_w pe_w set_list) (pgs_cons (pg_name (i := 2) sc__law_draw.nd rfl (.inl rfl)) pgs_nil))) ?_
    have hr2 := Int.emod_nonneg a (show (n : Int) ≠ 0 by omega)
    have hr3 := Int.emod_lt_of_pos a (show (0 : Int) < n by omega)
    refine go_retX (Ed.ex (ed_v 2)) ((hq.repot (p := p) (div_pot hp h1)).imp fun M' l z => ?_)
    obtain ⟨rfl, rfl⟩ := z
    exact ⟨rfl, rfl, (a % (n : Int)).toNat, by omega, by rw [Int.toNat_of_nonneg hr2]⟩
  · refine go_thn ?_
    have hb2 : -(2 ^ 64) < b ∧ b < 2 ^ 64 := by have := hp.2.2; omega
    refine go_setItem 0 (q := 1) (l := .d (.int ((b * 40692 + 7159) % 2147483587))) (ed_mod (by decide) (ed_int1 (b_int T) (ed_add (ed_mul (.inl hb2) (ed_ixO (ed_v 0) (.head _) ed_int rfl) ed_int) ed_int)) ed_int) (ed_v 0) rfl ed_int (by simp) ?_
    have g1 := Int.emod_nonneg (b * 40692 + 7159) (show (2147483587 : Int) ≠ 0 by decide)
    have g2 := Int.emod_lt_of_pos (b * 40692 + 7159) (show (0 : Int) < 2147483587 by decide)
    have hp2 : PotOk a ((b * 40692 + 7159) % 2147483587) := ⟨hp.1, hp.2.1, g1, by omega⟩
    have hb3 : -(2 ^ 64) < (b * 40692 + 7159) % 2147483587 ∧ (b * 40692 + 7159) % 2147483587 < 2 ^ 64 := by omega
    refine go_retX (Ed.ex (ed_mod (k := (n : Int)) (by omega) (ed_int1 (b_int T) (ed_fdiv ⟨by decide, by decide⟩ (ed_mod (by decide) (ed_int1 (b_int T) (ed_mul (.inl hb3) (ed_ixO (ed_v 0) (.head _) ed_int rfl) (ed_ixO (ed_v 0) (.head _) ed_int rfl))) ed_int) ed_int)) (ed_v 1))) ((hq.repot (p := p) hp2).imp fun M' l z => ?_)
    obtain ⟨rfl, rfl⟩ := z
    generalize (b * 40692 + 7159) % 2147483587 * ((b * 40692 + 7159) % 2147483587) % 2147483629 / 19 = y
    have h3 := Int.emod_lt_of_pos y (show (0 : Int) < n by omega)
    have h4 := Int.emod_nonneg y (show (n : Int) ≠ 0 by omega)
    exact ⟨rfl, rfl, (y % (n : Int)).toNat, by omega, congrArg (fun z => Lo.d (.int z)) (Int.toNat_of_nonneg h4).symm⟩
theorem d__law_pick (T : Tx w K mg) : Def P w K mg base CX0 "_law_pick" 2 ["_law_pot_here", "_law_some"] (spO K R_pick) := by
  refine def_O (f__law_pick T) (g__law_pick T) sc__law_pick (fun _ _ _ _ _ _ us hl => match us, hl with | [_, _], _ => rfl) (fun M ls Po h => by obtain ⟨p, ds, rfl, rfl, h1, h2, rfl⟩ := h; rfl) fun cdv A outer s H E hr M ls Po h O D hD hq => ?_
  obtain ⟨p, ds, rfl, rfl, h1, h2, rfl⟩ := h
  have hl : 1 ≤ ds.length := by cases ds with | nil => exact absurd rfl h1 | cons _ _ => simp
  refine go_retX (Ev.ex (ev_ixL (Φ := fun l => ∃ i : Nat, i < ds.length ∧ l = .d (.int i)) (ed_v 1) (Ex.ev (ex_call (P := fun M' l => M' = [(p, .pot)] ∧ ∃ i : Nat, i < ds.length ∧ l = .d (.int i)) ((d__law_draw T).up (by decide)) hr (ea_cons (ed_v 0) (ea_cons (ed_lenL (b_len T) (ed_v 1)) ea_nil)).ac ?_) fun M' l h => h) fun l h => h)) (hq.imp fun M' l h => h)
  rintro M1 ls ⟨rfl, rfl⟩
  refine ⟨[(p, .pot)], [], _, List.Perm.refl _, ⟨p, ds.length, rfl, rfl, hl, h2, rfl⟩, fun M' l h => ?_⟩
  rw [List.append_nil]
  exact h
end
end K32

/-! # Trees without steps are told by what they are -/
namespace K32
open PySem
mutual
def shn : Kd → Bool
  | .let_ _ => true
  | .cnt => true
  | .pr a b => shn a && shn b
  | .sm a b => shn a && shn b
  | .fn a b => met a && shn b
def met : Kd → Bool
  | .let_ _ => true
  | .cnt => false
  | .pr a b => met a && met b
  | .sm _ _ => false
  | .fn a b => shn a && met b
end
mutual
def quo : (k : Kd) → Den k → Nat → Tr
  | .let_ _, v, n => (show Nat → Tr from v) n
  | .cnt, v, _ => .told v
  | .pr a b, v, n => .both (quo a (show Den a × Den b from v).1 n) (quo b (show Den a × Den b from v).2 n)
  | .sm a b, v, n => match (show Den a ⊕ Den b from v) with
    | .inl x => .left b (quo a x n)
    | .inr y => .right a (quo b y n)
  | .fn a b, v, n => .fn a (quo b ((show Den a → Den b from v) (unq a fun m => .name (m - 1 - n))) (n + 1))
def unq : (k : Kd) → (Nat → Tr) → Den k
  | .let_ _, g => g
  | .cnt, _ => (0 : Nat)
  | .pr a b, g => (unq a fun m => .first (g m), unq b fun m => .second (g m))
  | .sm a _, _ => .inl (dfl a)
  | .fn a b, g => fun x => unq b fun m => .call (g m) (quo a x m)
end
/-- the names told anew: ls the levels of the binders around, m how many there are now -/
def ren : List Nat → Nat → Tr → Tr
  | ls, m, .name i => .name (m - 1 - ls.getD i 0)
  | ls, m, .fn A b => .fn A (ren (m :: ls) (m + 1) b)
  | ls, m, .call f a => .call (ren ls m f) (ren ls m a)
  | ls, m, .both a b => .both (ren ls m a) (ren ls m b)
  | ls, m, .first p => .first (ren ls m p)
  | ls, m, .second p => .second (ren ls m p)
  | ls, m, .left B p => .left B (ren ls m p)
  | ls, m, .right A p => .right A (ren ls m p)
  | _, _, t => t
def lev (A : Kd) (l : Nat) : Vl := ⟨A, unq A fun m => .name (m - 1 - l)⟩
def envL (Γ : List Kd) (ls : List Nat) : List Vl := List.zipWith lev Γ ls
theorem envL_ks : ∀ {Γ : List Kd} {ls : List Nat}, ls.length = Γ.length → ks (envL Γ ls) = Γ
  | [], [], _ => rfl
  | A :: Γ, l :: ls, h => by
    show A :: ks (envL Γ ls) = _
    rw [envL_ks (Nat.succ.inj h)]
  | [], _ :: _, h => by cases h
  | _ :: _, [], h => by cases h
theorem envL_at : ∀ {Γ : List Kd} {ls : List Nat} {i : Nat} {A : Kd}, ls.length = Γ.length → Γ[i]? = some A → (envL Γ ls).getD i junk = lev A (ls.getD i 0)
  | B :: Γ, l :: ls, 0, A, _, e => by simp at e; subst e; rfl
  | B :: Γ, l :: ls, i + 1, A, h, e => by
    have z := envL_at (Γ := Γ) (ls := ls) (i := i) (A := A) (Nat.succ.inj h) (by simpa using e)
    simpa [envL] using z
  | [], _, _, _, _, e => by simp at e
  | _ :: _, [], _, _, h, _ => by cases h
def isNeu : Tr → Bool
  | .name _ | .call _ _ | .first _ | .second _ => true
  | _ => false
def isCon : Tr → Bool
  | .told _ | .fn _ _ | .both _ _ | .left _ _ | .right _ _ => true
  | _ => false
/-- no step -/
def NF (Γ : List Kd) (h : Bool) (t : Tr) : Prop := ∀ C s, t = plugs C s → rulesT (envs Γ C) (helds h C) s = []
theorem NF.kid {c : C1} {Γ : List Kd} {h : Bool} {s : Tr} (n : NF Γ h (c.plug s)) : NF (c.env Γ) c.held s := fun C u e => n (c :: C) u (by rw [e]; rfl)
theorem NF.here {Γ : List Kd} {h : Bool} {t : Tr} (n : NF Γ h t) : rulesT Γ h t = [] := n [] t rfl
theorem NF.made {Γ : List Kd} {h : Bool} {t : Tr} (n : NF Γ h t) : madeW t = none := by
  have e := n.here
  unfold rulesT ruleW at e
  cases q : madeW t with
  | none => rfl
  | some t' => rw [q] at e; simp at e
theorem NF.long {Γ : List Kd} {t : Tr} (n : NF Γ false t) (hf : isFB t = false) : isFP (kOf Γ t) = false := by
  have e := n.here
  unfold rulesT longs at e
  rw [hf] at e
  cases q : isFP (kOf Γ t) with
  | false => rfl
  | true => rw [q] at e; simp at e
theorem nf_looks {Γ : List Kd} {h : Bool} {t : Tr} {p : Nat} : looks Γ p h t = [] ↔ NF Γ h t := by
  constructor
  · intro e C s hs
    cases q : rulesT (envs Γ C) (helds h C) s with
    | nil => rfl
    | cons r _ =>
      have z := looks_of_ctx C (s := s) (Γ := Γ) (p := p) (h := h) (r := r) (by rw [q]; exact List.mem_cons_self)
      rw [← hs, e] at z
      cases z
  · intro n
    cases q : looks Γ p h t with
    | nil => rfl
    | cons x r =>
      obtain ⟨i, r⟩ := x
      obtain ⟨C, s, e1, _, e3⟩ := looks_ctx t Γ p h i r (by rw [q]; exact List.mem_cons_self)
      rw [n C s e1] at e3
      cases e3
theorem neu_quo {k : Kd} {v : Vl} {g : Nat → Tr} (h : v = ⟨k, unq k g⟩) (hm : met k = true) (hf : isFP k = false) (m : Nat) : quo k (v.as k) m = g m := by
  subst h
  rw [as_self]
  cases k <;> first | rfl | (simp [met] at hm; done) | (simp [isFP] at hf; done)
theorem quo_as {k : Kd} {v : Vl} {x : Den k} (h : v = ⟨k, x⟩) (m : Nat) : quo k (v.as k) m = quo k x m := by subst h; rw [as_self]
theorem and2 {a b : Bool} (h : (a && b) = true) : a = true ∧ b = true := by simpa using h
theorem nf_quo (t : Tr) : ∀ (Γ : List Kd) (ls : List Nat) (k : Kd) (h : Bool), ls.length = Γ.length → ty Γ t = some k → (∀ a ∈ Γ, met a = true) → NF Γ h t →
    (isNeu t = true → met k = true ∧ ev t (envL Γ ls) = ⟨k, unq k fun m => ren ls m t⟩) ∧ (isNeu t = true ∨ isCon t = true) ∧ (h = false → shn k = true → ∀ m, quo k ((ev t (envL Γ ls)).as k) m = ren ls m t) := by
  have fromNeu : ∀ {t : Tr} {Γ : List Kd} {ls : List Nat} {k : Kd} {h : Bool}, isNeu t = true → ty Γ t = some k → NF Γ h t → (met k = true ∧ ev t (envL Γ ls) = ⟨k, unq k fun m => ren ls m t⟩) →
      (isNeu t = true → met k = true ∧ ev t (envL Γ ls) = ⟨k, unq k fun m => ren ls m t⟩) ∧ (isNeu t = true ∨ isCon t = true) ∧ (h = false → shn k = true → ∀ m, quo k ((ev t (envL Γ ls)).as k) m = ren ls m t) := fun {t Γ ls k h} ht hty n g =>
    ⟨fun _ => g, .inl ht, fun hh _ m => by
      subst hh
      have hf := n.long (by cases t <;> first | rfl | cases ht)
      rw [kOf_eq hty] at hf
      exact neu_quo g.2 g.1 hf m⟩
  induction t with
  | name i =>
    intro Γ ls k h hl hty hΓ n
    refine fromNeu rfl hty n ⟨hΓ k (List.mem_of_getElem? hty), ?_⟩
    exact envL_at hl hty
  | told i =>
    intro Γ ls k h hl hty hΓ n
    cases hty
    refine ⟨fun e => (by cases e), .inr rfl, fun _ _ m => ?_⟩
    show Tr.told ((natV i).as .cnt) = .told i
    rw [show (natV i).as .cnt = i from as_self .cnt i]
  | fn A b ih =>
    intro Γ ls k h hl hty hΓ n
    obtain ⟨kb, h1, hk⟩ := bnd hty
    obtain ⟨b', e, rfl, ho⟩ := kb_fn hk
    cases e
    refine ⟨fun e => (by cases e), .inr rfl, fun _ hs m => ?_⟩
    obtain ⟨hA, hB⟩ := and2 hs
    have z := (ih (A :: Γ) (m :: ls) kb false (by simp [hl]) h1 (fun a ha => by
      rcases List.mem_cons.mp ha with rfl | ha
      · exact hA
      · exact hΓ a ha) (n.kid (c := .fn A))).2.2 rfl hB (m + 1)
    have e2 : ev (.fn A b) (envL Γ ls) = ⟨.fn A kb, fun x => (ev b (⟨A, x⟩ :: envL Γ ls)).as kb⟩ := by
      show lamV A (kOf (A :: ks (envL Γ ls)) b) _ = _
      rw [envL_ks hl, kOf_eq h1]
      rfl
    refine (quo_as e2 m).trans ?_
    show Tr.fn A (quo kb ((ev b (⟨A, unq A fun m' => .name (m' - 1 - m)⟩ :: envL Γ ls)).as kb) (m + 1)) = .fn A (ren (m :: ls) (m + 1) b)
    exact congrArg (Tr.fn A) z
  | both a b ih1 ih2 =>
    intro Γ ls k h hl hty hΓ n
    obtain ⟨ka, h1, hk⟩ := bnd hty
    obtain ⟨kb, h2, hk⟩ := bnd hk
    obtain ⟨_, _, e, rfl, ho⟩ := kb_both hk
    cases e
    refine ⟨fun e => (by cases e), .inr rfl, fun _ hs m => ?_⟩
    obtain ⟨hA, hB⟩ := and2 hs
    have z1 := (ih1 Γ ls ka false hl h1 hΓ (n.kid (c := .bothL b))).2.2 rfl hA m
    have z2 := (ih2 Γ ls kb false hl h2 hΓ (n.kid (c := .bothR a))).2.2 rfl hB m
    have k1 := ev_ty a (envL Γ ls) ka (by rw [envL_ks hl]; exact h1)
    have k2 := ev_ty b (envL Γ ls) kb (by rw [envL_ks hl]; exact h2)
    have e2 : ev (.both a b) (envL Γ ls) = ⟨.pr ka kb, ((ev a (envL Γ ls)).as ka, (ev b (envL Γ ls)).as kb)⟩ := by
      show pairV (ev a (envL Γ ls)) (ev b (envL Γ ls)) = _
      generalize ev a (envL Γ ls) = va at k1
      generalize ev b (envL Γ ls) = vb at k2
      cases va; cases vb; cases k1; cases k2
      rw [as_self, as_self]; rfl
    refine (quo_as e2 m).trans ?_
    show Tr.both (quo ka _ m) (quo kb _ m) = .both (ren ls m a) (ren ls m b)
    rw [← z1, ← z2]
  | left B a ih =>
    intro Γ ls k h hl hty hΓ n
    obtain ⟨ka, h1, hk⟩ := bnd hty
    obtain ⟨_, e, rfl, ho⟩ := kb_left hk
    cases e
    refine ⟨fun e => (by cases e), .inr rfl, fun _ hs m => ?_⟩
    obtain ⟨hA, hB⟩ := and2 hs
    have z1 := (ih Γ ls ka false hl h1 hΓ (n.kid (c := .left B))).2.2 rfl hA m
    have k1 := ev_ty a (envL Γ ls) ka (by rw [envL_ks hl]; exact h1)
    have e2 : ev (.left B a) (envL Γ ls) = ⟨.sm ka B, .inl ((ev a (envL Γ ls)).as ka)⟩ := by
      show inlV B (ev a (envL Γ ls)) = _
      generalize ev a (envL Γ ls) = va at k1
      cases va; cases k1
      rw [as_self]; rfl
    refine (quo_as e2 m).trans ?_
    show Tr.left B (quo ka _ m) = .left B (ren ls m a)
    rw [← z1]
  | right B a ih =>
    intro Γ ls k h hl hty hΓ n
    obtain ⟨ka, h1, hk⟩ := bnd hty
    obtain ⟨_, e, rfl, ho⟩ := kb_right hk
    cases e
    refine ⟨fun e => (by cases e), .inr rfl, fun _ hs m => ?_⟩
    obtain ⟨hA, hB⟩ := and2 hs
    have z1 := (ih Γ ls ka false hl h1 hΓ (n.kid (c := .right B))).2.2 rfl hB m
    have k1 := ev_ty a (envL Γ ls) ka (by rw [envL_ks hl]; exact h1)
    have e2 : ev (.right B a) (envL Γ ls) = ⟨.sm B ka, .inr ((ev a (envL Γ ls)).as ka)⟩ := by
      show inrV B (ev a (envL Γ ls)) = _
      generalize ev a (envL Γ ls) = va at k1
      cases va; cases k1
      rw [as_self]; rfl
    refine (quo_as e2 m).trans ?_
    show Tr.right B (quo ka _ m) = .right B (ren ls m a)
    rw [← z1]
  | call f a ih1 ih2 =>
    intro Γ ls k h hl hty hΓ n
    obtain ⟨kf, h1, hk⟩ := bnd hty
    obtain ⟨ka, h2, hk⟩ := bnd hk
    obtain ⟨a', e⟩ := kb_call hk
    cases e
    obtain ⟨g1, g2, _⟩ := ih1 Γ ls _ true hl h1 hΓ (n.kid (c := .callL a))
    have hn : isNeu f = true := by
      rcases g2 with g2 | g2
      · exact g2
      · exfalso
        have hm := n.made
        cases f <;> first | (cases g2; done) | skip
        · cases h1
        · cases hm
        · obtain ⟨_, _, q⟩ := bnd h1; obtain ⟨_, _, q⟩ := bnd q; obtain ⟨_, _, _, q, _⟩ := kb_both q; cases q
        · obtain ⟨_, _, q⟩ := bnd h1; obtain ⟨_, _, q, _⟩ := kb_left q; cases q
        · obtain ⟨_, _, q⟩ := bnd h1; obtain ⟨_, _, q, _⟩ := kb_right q; cases q
    obtain ⟨m1, m2⟩ := g1 hn
    obtain ⟨hA, hB⟩ := and2 m1
    have z := (ih2 Γ ls _ false hl h2 hΓ (n.kid (c := .callR f))).2.2 rfl hA
    refine fromNeu rfl hty n ⟨hB, ?_⟩
    show appV (ev f (envL Γ ls)) (ev a (envL Γ ls)) = _
    rw [m2]
    show (⟨k, unq k fun m => .call (ren ls m f) (quo ka ((ev a (envL Γ ls)).as ka) m)⟩ : Vl) = ⟨k, unq k fun m => .call (ren ls m f) (ren ls m a)⟩
    have e3 : (fun m => Tr.call (ren ls m f) (quo ka ((ev a (envL Γ ls)).as ka) m)) = fun m => Tr.call (ren ls m f) (ren ls m a) := funext fun m => by rw [z m]
    rw [e3]
  | first p ih =>
    intro Γ ls k h hl hty hΓ n
    obtain ⟨kq, h1, hk⟩ := bnd hty
    obtain ⟨b', e⟩ := kb_first hk
    cases e
    obtain ⟨g1, g2, _⟩ := ih Γ ls _ true hl h1 hΓ (n.kid (c := .first))
    have hn : isNeu p = true := by
      rcases g2 with g2 | g2
      · exact g2
      · exfalso
        have hm := n.made
        cases p <;> first | (cases g2; done) | skip
        · cases h1
        · obtain ⟨_, _, q⟩ := bnd h1; obtain ⟨_, _, q, _⟩ := kb_fn q; cases q
        · cases hm
        · obtain ⟨_, _, q⟩ := bnd h1; obtain ⟨_, _, q, _⟩ := kb_left q; cases q
        · obtain ⟨_, _, q⟩ := bnd h1; obtain ⟨_, _, q, _⟩ := kb_right q; cases q
    obtain ⟨m1, m2⟩ := g1 hn
    obtain ⟨hA, hB⟩ := and2 m1
    refine fromNeu rfl hty n ⟨hA, ?_⟩
    show fstV (ev p (envL Γ ls)) = _
    rw [m2]; rfl
  | second p ih =>
    intro Γ ls k h hl hty hΓ n
    obtain ⟨kq, h1, hk⟩ := bnd hty
    obtain ⟨b', e⟩ := kb_second hk
    cases e
    obtain ⟨g1, g2, _⟩ := ih Γ ls _ true hl h1 hΓ (n.kid (c := .second))
    have hn : isNeu p = true := by
      rcases g2 with g2 | g2
      · exact g2
      · exfalso
        have hm := n.made
        cases p <;> first | (cases g2; done) | skip
        · cases h1
        · obtain ⟨_, _, q⟩ := bnd h1; obtain ⟨_, _, q, _⟩ := kb_fn q; cases q
        · cases hm
        · obtain ⟨_, _, q⟩ := bnd h1; obtain ⟨_, _, q, _⟩ := kb_left q; cases q
        · obtain ⟨_, _, q⟩ := bnd h1; obtain ⟨_, _, q, _⟩ := kb_right q; cases q
    obtain ⟨m1, m2⟩ := g1 hn
    obtain ⟨hA, hB⟩ := and2 m1
    refine fromNeu rfl hty n ⟨hB, ?_⟩
    show sndV (ev p (envL Γ ls)) = _
    rw [m2]; rfl
  | which s l r ih1 ih2 ih3 =>
    intro Γ ls k h hl hty hΓ n
    exfalso
    obtain ⟨a, b, h1, _, _⟩ := tyWhich hty
    obtain ⟨g1, g2, _⟩ := ih1 Γ ls _ false hl h1 hΓ (n.kid (c := .whS l r))
    rcases g2 with g2 | g2
    · have := (g1 g2).1; simp [met] at this
    · have hm := n.made
      cases s <;> first | (cases g2; done) | (cases hm; done) | skip
      · cases h1
      · obtain ⟨_, _, q⟩ := bnd h1; obtain ⟨_, _, q, _⟩ := kb_fn q; cases q
      · obtain ⟨_, _, q⟩ := bnd h1; obtain ⟨_, _, q⟩ := bnd q; obtain ⟨_, _, _, q, _⟩ := kb_both q; cases q
  | next p ih =>
    intro Γ ls k h hl hty hΓ n
    exfalso
    obtain ⟨kq, h1, hk⟩ := bnd hty
    obtain ⟨e, _⟩ := kb_next hk
    cases e
    obtain ⟨g1, g2, _⟩ := ih Γ ls _ false hl h1 hΓ (n.kid (c := .next))
    rcases g2 with g2 | g2
    · have := (g1 g2).1; simp [met] at this
    · have hm := n.made
      cases p <;> first | (cases g2; done) | (cases hm; done) | skip
      · obtain ⟨_, _, q⟩ := bnd h1; obtain ⟨_, _, q, _⟩ := kb_fn q; cases q
      · obtain ⟨_, _, q⟩ := bnd h1; obtain ⟨_, _, q⟩ := bnd q; obtain ⟨_, _, _, q, _⟩ := kb_both q; cases q
      · obtain ⟨_, _, q⟩ := bnd h1; obtain ⟨_, _, q, _⟩ := kb_left q; cases q
      · obtain ⟨_, _, q⟩ := bnd h1; obtain ⟨_, _, q, _⟩ := kb_right q; cases q
  | turns A p u s ih1 ih2 ih3 =>
    intro Γ ls k h hl hty hΓ n
    exfalso
    obtain ⟨k1, h1, hk⟩ := bnd hty
    obtain ⟨k2, _, hk⟩ := bnd hk
    obtain ⟨k3, _, hk⟩ := bnd hk
    obtain ⟨e, _⟩ := kb_turns hk
    cases e
    obtain ⟨g1, g2, _⟩ := ih1 Γ ls _ false hl h1 hΓ (n.kid (c := .tuN A u s))
    rcases g2 with g2 | g2
    · have := (g1 g2).1; simp [met] at this
    · have hm := n.made
      cases p <;> first | (cases g2; done) | (cases hm; done) | skip
      · obtain ⟨_, _, q⟩ := bnd h1; obtain ⟨_, _, q, _⟩ := kb_fn q; cases q
      · obtain ⟨_, _, q⟩ := bnd h1; obtain ⟨_, _, q⟩ := bnd q; obtain ⟨_, _, _, q, _⟩ := kb_both q; cases q
      · obtain ⟨_, _, q⟩ := bnd h1; obtain ⟨_, _, q, _⟩ := kb_left q; cases q
      · obtain ⟨_, _, q⟩ := bnd h1; obtain ⟨_, _, q, _⟩ := kb_right q; cases q
  | lt a b ih1 ih2 => intro Γ ls k h hl hty hΓ n; have hm := n.made; cases hm
def down : Nat → List Nat
  | 0 => []
  | n + 1 => n :: down n
theorem down_at : ∀ {n i : Nat}, i < n → (down n).getD i 0 = n - 1 - i
  | n + 1, 0, _ => by simp [down]
  | n + 1, i + 1, h => by
    have z := down_at (n := n) (i := i) (by omega)
    simp only [down, List.getD_cons_succ]
    rw [z]; omega
theorem ren_id (t : Tr) : ∀ (Γ : List Kd) (k : Kd), ty Γ t = some k → ren (down Γ.length) Γ.length t = t := by
  induction t with
  | name i =>
    intro Γ k h
    have hi := (List.getElem?_eq_some_iff.mp h).1
    show Tr.name (Γ.length - 1 - (down Γ.length).getD i 0) = _
    rw [down_at hi, show Γ.length - 1 - (Γ.length - 1 - i) = i by omega]
  | fn A b ih => intro Γ k h; obtain ⟨kb, h1, _⟩ := bnd h; exact congrArg (Tr.fn A) (ih (A :: Γ) kb h1)
  | first b ih => intro Γ k h; obtain ⟨kb, h1, _⟩ := bnd h; exact congrArg Tr.first (ih Γ kb h1)
  | second b ih => intro Γ k h; obtain ⟨kb, h1, _⟩ := bnd h; exact congrArg Tr.second (ih Γ kb h1)
  | left A b ih => intro Γ k h; obtain ⟨kb, h1, _⟩ := bnd h; exact congrArg (Tr.left A) (ih Γ kb h1)
  | right A b ih => intro Γ k h; obtain ⟨kb, h1, _⟩ := bnd h; exact congrArg (Tr.right A) (ih Γ kb h1)
  | call f a ih1 ih2 => intro Γ k h; obtain ⟨kf, h1, h⟩ := bnd h; obtain ⟨ka, h2, h⟩ := bnd h; show Tr.call _ _ = _; rw [ih1 Γ kf h1, ih2 Γ ka h2]
  | both f a ih1 ih2 => intro Γ k h; obtain ⟨kf, h1, h⟩ := bnd h; obtain ⟨ka, h2, h⟩ := bnd h; show Tr.both _ _ = _; rw [ih1 Γ kf h1, ih2 Γ ka h2]
  | _ => intros; rfl
/-- two trees without steps, of a shown kind, that are the same -/
theorem nf_unique {t t' : Tr} {k : Kd} (h : ty [] t = some k) (h' : ty [] t' = some k) (hs : shn k = true) (n : NF [] false t) (n' : NF [] false t') (e : ev t [] = ev t' []) : t = t' := by
  have z := (nf_quo t [] [] k false rfl h (fun a ha => by cases ha) n).2.2 rfl hs 0
  have z' := (nf_quo t' [] [] k false rfl h' (fun a ha => by cases ha) n').2.2 rfl hs 0
  have r := ren_id t [] k h
  have r' := ren_id t' [] k h'
  have e : ev t (envL [] []) = ev t' (envL [] []) := e
  rw [e] at z
  have z2 : ren [] 0 t = ren [] 0 t' := z.symm.trans z'
  exact r.symm.trans (z2.trans r')
end K32

/-! # Drawn programs: the ways, how great they grow, what is right of them -/
namespace K32
open PySem
inductive Wy where
  | fst | snd | arg (k : Kd)
  deriving DecidableEq
def ways : Kd → Kd → List (List Wy)
  | .pr a b, l => (ways a l).map (Wy.fst :: ·) ++ (ways b l).map (Wy.snd :: ·)
  | .fn a b, l => (ways b l).map (Wy.arg a :: ·)
  | k, l => if k = l then [[]] else []
def Wy.isArg : Wy → Bool
  | .arg _ => true
  | _ => false
def wcalls (w : List Wy) : Nat := (w.filter Wy.isArg).length
def headsF : Nat → List Kd → Kd → List (Nat × List Wy)
  | _, [], _ => []
  | i, A :: Γ, l => (ways A l).map (fun w => (i, w)) ++ headsF (i + 1) Γ l
def isCand (L : List (Nat × List Wy)) (deep : Int) (p : Nat × List Wy) : Bool := decide (0 < deep) || L.all fun q => decide (wcalls p.2 ≤ wcalls q.2)
def cands (Γ : List Kd) (l : Kd) (deep : Int) : List (Nat × List Wy) := (headsF 0 Γ l).filter (isCand (headsF 0 Γ l) deep)
def small (k : Kd) : Bool := k.ok && decide (k.signs ≤ 28) && decide (k.deep ≤ 10)
/-- how great the drawn trees grow at most, none where it is not told -/
def bP : Nat → Kd → List Kd → Int → Option Nat
  | 0, _, _, _ => none
  | f + 1, k, Γ, deep => if small k then (match k with
      | .fn a b => (bP f b (a :: Γ) deep).map fun x => 1 + x
      | .pr a b => (bP f a Γ deep).bind fun x => (bP f b Γ deep).map fun y => 1 + x + y
      | .sm a b => (bP f a Γ deep).bind fun x => (bP f b Γ deep).map fun y => 1 + max x y
      | .cnt => some 1
      | .let_ i => if (headsF 0 Γ (.let_ i)).isEmpty then none else (cands Γ (.let_ i) deep).foldr (fun (p : Nat × List Wy) (acc : Option Nat) => acc.bind fun m => (p.2.foldl (fun (acc : Option Nat) (st : Wy) => acc.bind fun m => match st with
          | .arg a => (bP f a Γ (deep - 1)).map fun x => 1 + m + x
          | _ => some (1 + m)) (some 1)).map fun x => max m x) (some 0)).map fun x => max 25 x
    else none
/-- one step of a way -/
def bStep (f : Nat) (Γ : List Kd) (deep : Int) (acc : Option Nat) (st : Wy) : Option Nat := acc.bind fun m => match st with
  | .arg a => (bP f a Γ (deep - 1)).map fun x => 1 + m + x
  | _ => some (1 + m)
def bWay (f : Nat) (Γ : List Kd) (deep : Int) (acc : Option Nat) (w : List Wy) : Option Nat := w.foldl (bStep f Γ deep) acc
theorem bWay_none {f : Nat} {Γ : List Kd} {deep : Int} : ∀ w : List Wy, bWay f Γ deep none w = none
  | [] => rfl
  | _ :: w => bWay_none w
theorem fold_max {α : Type} {g : α → Option Nat} : ∀ {L : List α} {b : Nat}, L.foldr (fun p acc => acc.bind fun m => (g p).map fun x => max m x) (some 0) = some b → ∀ p ∈ L, ∃ x, g p = some x ∧ x ≤ b
  | [], _, _, _, h => by cases h
  | q :: L, b, e, p, h => by
    have e : (L.foldr (fun p acc => acc.bind fun m => (g p).map fun x => max m x) (some 0)).bind (fun m => (g q).map fun x => max m x) = some b := e
    obtain ⟨m, e1, e2⟩ := bnd e
    cases e3 : g q with
    | none => rw [e3] at e2; cases e2
    | some x =>
      rw [e3] at e2
      cases e2
      rcases List.mem_cons.mp h with rfl | h
      · exact ⟨x, e3, Nat.le_max_right _ _⟩
      · obtain ⟨y, h1, h2⟩ := fold_max e1 p h
        exact ⟨y, h1, Nat.le_trans h2 (Nat.le_max_left _ _)⟩
theorem omap {α β : Type} {o : Option α} {g : α → β} {b : β} (h : o.map g = some b) : ∃ a, o = some a ∧ g a = b := by
  cases o with
  | none => cases h
  | some a => cases h; exact ⟨a, rfl, rfl⟩
theorem bP_small {f : Nat} {k : Kd} {Γ : List Kd} {deep : Int} {b : Nat} (h : bP (f + 1) k Γ deep = some b) : small k = true ∧ 25 ≤ b := by
  unfold bP at h
  split at h
  · rename_i hs
    obtain ⟨x, _, rfl⟩ := omap h
    exact ⟨hs, Nat.le_max_left _ _⟩
  · cases h
theorem bP_fn {f : Nat} {a c : Kd} {Γ : List Kd} {deep : Int} {b : Nat} (h : bP (f + 1) (.fn a c) Γ deep = some b) : ∃ x, bP f c (a :: Γ) deep = some x ∧ 1 + x ≤ b := by
  unfold bP at h
  split at h
  · obtain ⟨x, e, rfl⟩ := omap h
    obtain ⟨y, e', rfl⟩ := omap (g := fun x => 1 + x) e
    exact ⟨y, e', Nat.le_max_right _ _⟩
  · cases h
theorem bP_pr {f : Nat} {a c : Kd} {Γ : List Kd} {deep : Int} {b : Nat} (h : bP (f + 1) (.pr a c) Γ deep = some b) : ∃ x y, bP f a Γ deep = some x ∧ bP f c Γ deep = some y ∧ 1 + x + y ≤ b := by
  unfold bP at h
  split at h
  · obtain ⟨x, e, rfl⟩ := omap h
    obtain ⟨y, e', e2⟩ := bnd e
    obtain ⟨z, e3, rfl⟩ := omap e2
    exact ⟨y, z, e', e3, Nat.le_max_right _ _⟩
  · cases h
theorem bP_sm {f : Nat} {a c : Kd} {Γ : List Kd} {deep : Int} {b : Nat} (h : bP (f + 1) (.sm a c) Γ deep = some b) : ∃ x y, bP f a Γ deep = some x ∧ bP f c Γ deep = some y ∧ 1 + x ≤ b ∧ 1 + y ≤ b := by
  unfold bP at h
  split at h
  · obtain ⟨x, e, rfl⟩ := omap h
    obtain ⟨y, e', e2⟩ := bnd e
    obtain ⟨z, e3, rfl⟩ := omap e2
    exact ⟨y, z, e', e3, by omega, by omega⟩
  · cases h
theorem bP_let {f : Nat} {i : Nat} {Γ : List Kd} {deep : Int} {b : Nat} (h : bP (f + 1) (.let_ i) Γ deep = some b) : headsF 0 Γ (.let_ i) ≠ [] ∧ ∀ p ∈ cands Γ (.let_ i) deep, ∃ x, bWay f Γ deep (some 1) p.2 = some x ∧ x ≤ b := by
  unfold bP at h
  split at h
  · obtain ⟨x, e, rfl⟩ := omap h
    dsimp only at e
    split at e
    · cases e
    · rename_i hne
      refine ⟨fun q => hne (by rw [q]; rfl), fun p hp => ?_⟩
      obtain ⟨y, h1, h2⟩ := fold_max (g := fun p : Nat × List Wy => bWay f Γ deep (some 1) p.2) e p hp
      exact ⟨y, h1, Nat.le_trans h2 (Nat.le_max_right _ _)⟩
  · cases h
/-- where a way leads -/
def wyTo : Kd → List Wy → Kd → Prop
  | k, [], l => k = l
  | .pr a _, .fst :: w, l => wyTo a w l
  | .pr _ b, .snd :: w, l => wyTo b w l
  | .fn a b, .arg a' :: w, l => a' = a ∧ wyTo b w l
  | _, _, _ => False
theorem ways_to (k : Kd) : ∀ (l : Kd) (w : List Wy), w ∈ ways k l → wyTo k w l := by
  induction k with
  | let_ i =>
    intro l w h
    unfold ways at h
    split at h
    · rename_i e
      rw [List.mem_singleton.mp h]
      exact e
    · cases h
  | cnt =>
    intro l w h
    unfold ways at h
    split at h
    · rename_i e
      rw [List.mem_singleton.mp h]
      exact e
    · cases h
  | sm a b _ _ =>
    intro l w h
    unfold ways at h
    split at h
    · rename_i e
      rw [List.mem_singleton.mp h]
      exact e
    · cases h
  | pr a b ih1 ih2 =>
    intro l w h
    unfold ways at h
    rcases List.mem_append.mp h with h | h
    · obtain ⟨v, hv, rfl⟩ := List.mem_map.mp h; exact ih1 l v hv
    · obtain ⟨v, hv, rfl⟩ := List.mem_map.mp h; exact ih2 l v hv
  | fn a b ih1 ih2 =>
    intro l w h
    unfold ways at h
    obtain ⟨v, hv, rfl⟩ := List.mem_map.mp h
    exact ⟨rfl, ih2 l v hv⟩
theorem heads_to : ∀ {Γ : List Kd} {j : Nat} {l : Kd} {i : Nat} {w : List Wy}, (i, w) ∈ headsF j Γ l → ∃ A, j ≤ i ∧ Γ[i - j]? = some A ∧ w ∈ ways A l
  | [], _, _, _, _, h => by cases h
  | A :: Γ, j, l, i, w, h => by
    unfold headsF at h
    rcases List.mem_append.mp h with h | h
    · obtain ⟨v, hv, e⟩ := List.mem_map.mp h
      cases e
      exact ⟨A, Nat.le_refl _, by simp, hv⟩
    · obtain ⟨B, h1, h2, h3⟩ := heads_to h
      refine ⟨B, by omega, ?_, h3⟩
      rw [show i - j = (i - (j + 1)) + 1 by omega]
      exact h2
/-! ## what is right -/
/-- a plain one and one with detours, while a way is gone -/
structure ChR (A : Kd) (Γ : List Kd) (m : Nat) (n f : Tr) : Prop where
  tn : ty Γ n = some A
  tf : ty Γ f = some A
  on : okT n
  of : okT f
  tb : tb 1 f
  sn : n.size ≤ m
  sf : f.size ≤ m
  nf : NF Γ true n
  neu : isNeu n = true
  ev : ∀ η, ks η = Γ → ev f η = ev n η
structure PairR (k : Kd) (Γ : List Kd) (b : Nat) (n f : Tr) : Prop where
  tn : ty Γ n = some k
  tf : ty Γ f = some k
  on : okT n
  of : okT f
  tb : K32.tb 1 f
  sn : n.size ≤ b
  sf : f.size ≤ b
  nf : NF Γ false n
  ev : ∀ η, ks η = Γ → K32.ev f η = K32.ev n η
theorem neu_held {Γ : List Kd} {n : Tr} (h : isNeu n = true) (hm : madeW n = none) : rulesT Γ true n = [] := by
  unfold rulesT ruleW longs
  rw [hm]; simp
theorem ChR.name {Γ : List Kd} {i : Nat} {A : Kd} (h : Γ[i]? = some A) : ChR A Γ 1 (.name i) (.name i) where
  tn := h
  tf := h
  on := trivial
  of := trivial
  tb := trivial
  sn := Nat.le_refl _
  sf := Nat.le_refl _
  nf := fun C s e => by
    cases C with
    | nil => cases e; exact neu_held rfl rfl
    | cons c C => cases c <;> cases e
  neu := rfl
  ev := fun _ _ => rfl
theorem made_first {n : Tr} (h : isNeu n = true) : madeW (.first n) = none := by cases n <;> first | rfl | cases h
theorem made_second {n : Tr} (h : isNeu n = true) : madeW (.second n) = none := by cases n <;> first | rfl | cases h
theorem made_call {n a : Tr} (h : isNeu n = true) : madeW (.call n a) = none := by cases n <;> first | rfl | cases h
theorem ChR.first {A B : Kd} {Γ : List Kd} {m : Nat} {n f : Tr} (c : ChR (.pr A B) Γ m n f) : ChR A Γ (1 + m) (.first n) (.first f) where
  tn := by show ((ty Γ n).bind _) = _; rw [c.tn]; rfl
  tf := by show ((ty Γ f).bind _) = _; rw [c.tf]; rfl
  on := c.on
  of := c.of
  tb := c.tb
  sn := by have := c.sn; simp only [Tr.size]; omega
  sf := by have := c.sf; simp only [Tr.size]; omega
  nf := fun C s e => by
    cases C with
    | nil => cases e; exact neu_held rfl (made_first c.neu)
    | cons x C => cases x <;> cases e; exact c.nf C s rfl
  neu := rfl
  ev := fun η h => by show fstV _ = fstV _; rw [c.ev η h]
theorem ChR.second {A B : Kd} {Γ : List Kd} {m : Nat} {n f : Tr} (c : ChR (.pr A B) Γ m n f) : ChR B Γ (1 + m) (.second n) (.second f) where
  tn := by show ((ty Γ n).bind _) = _; rw [c.tn]; rfl
  tf := by show ((ty Γ f).bind _) = _; rw [c.tf]; rfl
  on := c.on
  of := c.of
  tb := c.tb
  sn := by have := c.sn; simp only [Tr.size]; omega
  sf := by have := c.sf; simp only [Tr.size]; omega
  nf := fun C s e => by
    cases C with
    | nil => cases e; exact neu_held rfl (made_second c.neu)
    | cons x C => cases x <;> cases e; exact c.nf C s rfl
  neu := rfl
  ev := fun η h => by show sndV _ = sndV _; rw [c.ev η h]
theorem ChR.call {A B : Kd} {Γ : List Kd} {m b : Nat} {n f x y : Tr} (c : ChR (.fn A B) Γ m n f) (p : PairR A Γ b x y) : ChR B Γ (1 + m + b) (.call n x) (.call f y) where
  tn := by show ((ty Γ n).bind fun f => (ty Γ x).bind fun a => kindBy .call [f, a]) = _; rw [c.tn, p.tn]; show (if A = A then some B else none) = _; rw [if_pos rfl]
  tf := by show ((ty Γ f).bind fun f => (ty Γ y).bind fun a => kindBy .call [f, a]) = _; rw [c.tf, p.tf]; show (if A = A then some B else none) = _; rw [if_pos rfl]
  on := ⟨c.on, p.on⟩
  of := ⟨c.of, p.of⟩
  tb := ⟨c.tb, p.tb⟩
  sn := by have := c.sn; have := p.sn; simp only [Tr.size]; omega
  sf := by have := c.sf; have := p.sf; simp only [Tr.size]; omega
  nf := fun C s e => by
    cases C with
    | nil => cases e; exact neu_held rfl (made_call c.neu)
    | cons z C =>
      cases z <;> cases e
      · exact c.nf C s rfl
      · exact p.nf C s rfl
  neu := rfl
  ev := fun η h => by show appV _ _ = appV _ _; rw [c.ev η h, p.ev η h]
/-- the detours -/
inductive Arnd (k : Kd) (f : Tr) : Tr → Prop
  | same : Arnd k f f
  | d0 : f.size ≤ 20 → Arnd k f (.call (.fn k (.name 0)) f)
  | d1 (n : Nat) : f.size ≤ 20 → n < 3 → Arnd k f (.call (.fn .cnt (Tr.lift 1 0 f)) (.told n))
  | d2 (n : Nat) : f.size ≤ 20 → n < 3 → Arnd k f (.second (.both (.told n) f))
  | d3 : f.size ≤ 20 → Arnd k f (.lt f (.name 0))
  | d4 : f.size < 12 → Arnd k f (.which (.right .cnt f) (Tr.lift 1 0 f) (.name 0))
  | d5 : f.size < 12 → Arnd k f (.which (.left .cnt f) (.name 0) (Tr.lift 1 0 f))
  | d6 (n : Nat) : f.size ≤ 20 → n < 3 → Arnd k f (.turns k (.told (min 1 n)) (.name 0) f)
  | d7 (n : Nat) : f.size ≤ 20 → n < 3 → Arnd k f (.lt (.next (.told n)) (Tr.lift 1 0 f))
theorem small_ok {k : Kd} (h : small k = true) : k.ok = true ∧ (Kd.fn k k).ok = true ∧ (Kd.fn .cnt k).ok = true ∧ (Kd.pr .cnt k).ok = true ∧ (Kd.sm k .cnt).ok = true ∧ (Kd.sm .cnt k).ok = true := by
  unfold small at h
  simp only [Bool.and_eq_true, decide_eq_true_eq] at h
  obtain ⟨⟨h1, h2⟩, h3⟩ := h
  have h1' := h1
  unfold Kd.ok at h1
  simp only [Bool.and_eq_true, decide_eq_true_eq] at h1
  obtain ⟨⟨l, _⟩, _⟩ := h1
  have e : ∀ {x : Kd}, x.lets = true → x.signs ≤ 60 → x.deep ≤ 12 → x.ok = true := fun {x} a b c => by
    unfold Kd.ok; rw [a, decide_eq_true b, decide_eq_true c]; rfl
  refine ⟨h1', e ?_ ?_ ?_, e ?_ ?_ ?_, e ?_ ?_ ?_, e ?_ ?_ ?_, e ?_ ?_ ?_⟩ <;> simp only [Kd.lets, Kd.signs, Kd.deep, l] <;> first | rfl | omega
theorem arnd_ok {k : Kd} {Γ : List Kd} {b : Nat} {f f' : Tr} (a : Arnd k f f') (hk : small k = true) (hb : 25 ≤ b) (hf : ty Γ f = some k) (of : okT f) (tf : tb 1 f) (sf : f.size ≤ b) :
    ty Γ f' = some k ∧ okT f' ∧ tb 1 f' ∧ f'.size ≤ b ∧ ∀ η, ks η = Γ → ev f' η = ev f η := by
  obtain ⟨o1, o2, o3, o4, o5, o6⟩ := small_ok hk
  have lf : ∀ A : Kd, ty (A :: Γ) (Tr.lift 1 0 f) = some k := fun A => by rw [ty_lift1]; exact hf
  have ek : ∀ η, ks η = Γ → (ev f η).k = k := fun η h => ev_ty f η k (by rw [h]; exact hf)
  have n0 : ∀ A : Kd, ty (A :: Γ) (.name 0) = some A := fun A => rfl
  cases a with
  | same => exact ⟨hf, of, tf, sf, fun _ _ => rfl⟩
  | d0 hs =>
    have h : ty Γ (.call (.fn k (.name 0)) f) = some k := by
      have e : ty Γ (.fn k (.name 0)) = some (.fn k k) := by show (if (Kd.fn k k).ok then some (Kd.fn k k) else none) = _; rw [if_pos o2]
      show ((ty Γ (.fn k (.name 0))).bind fun f' => (ty Γ f).bind fun a => kindBy .call [f', a]) = _
      rw [e, hf]; show (if k = k then some k else none) = _; rw [if_pos rfl]
    refine ⟨h, ⟨⟨o1, trivial⟩, of⟩, ⟨trivial, tf⟩, by simp only [Tr.size]; omega, fun η hη => ?_⟩
    have z := made_ev (t := .call (.fn k (.name 0)) f) (t' := Tr.put f 0 (.name 0)) (η := η) rfl (by rw [hη]; exact h)
    rw [← z, ev_put0 (ko := k) (by rw [hη]; exact hf)]
    rfl
  | d1 n hs hn =>
    have h : ty Γ (.call (.fn .cnt (Tr.lift 1 0 f)) (.told n)) = some k := by
      show (((ty (.cnt :: Γ) (Tr.lift 1 0 f)).bind fun b => kindBy (.fn .cnt) [b]).bind fun f' => (some Kd.cnt).bind fun a => kindBy .call [f', a]) = _
      rw [lf]
      show ((if (Kd.fn .cnt k).ok then some (Kd.fn .cnt k) else none).bind fun f' => kindBy .call [f', .cnt]) = _
      rw [if_pos o3]; show (if Kd.cnt = Kd.cnt then some k else none) = _; rw [if_pos rfl]
    refine ⟨h, ⟨⟨by decide, okT_lift f 0 of⟩, by show n ≤ 1000000; omega⟩, ⟨tb_lift f 0 tf, trivial⟩, by simp only [Tr.size, size_lift]; omega, fun η hη => ?_⟩
    have z := made_ev (t := .call (.fn .cnt (Tr.lift 1 0 f)) (.told n)) (t' := Tr.put (.told n) 0 (Tr.lift 1 0 f)) (η := η) rfl (by rw [hη]; exact h)
    rw [← z, ev_put0 (ko := .cnt) rfl, ev_lift1]
  | d2 n hs hn =>
    have h : ty Γ (.second (.both (.told n) f)) = some k := by
      show (((some Kd.cnt).bind fun a => (ty Γ f).bind fun b => kindBy .both [a, b]).bind fun p => kindBy .second [p]) = _
      rw [hf]; show ((if (Kd.pr .cnt k).ok then some (Kd.pr .cnt k) else none).bind fun p => kindBy .second [p]) = _; rw [if_pos o4]; rfl
    exact ⟨h, ⟨by show n ≤ 1000000; omega, of⟩, ⟨trivial, tf⟩, by simp only [Tr.size]; omega, fun η hη => rfl⟩
  | d3 hs =>
    have h : ty Γ (.lt f (.name 0)) = some k := by
      show ((ty Γ f).bind fun a => (ty (a :: Γ) (.name 0)).bind fun b => kindBy .lt [a, b]) = _
      rw [hf]; rfl
    exact ⟨h, ⟨of, trivial⟩, ⟨tf, trivial⟩, by simp only [Tr.size]; omega, fun η hη => rfl⟩
  | d4 hs =>
    have e : ty Γ (.right .cnt f) = some (.sm .cnt k) := by show ((ty Γ f).bind _) = _; rw [hf]; show (if (Kd.sm .cnt k).ok then some (Kd.sm .cnt k) else none) = _; rw [if_pos o6]
    have h : ty Γ (.which (.right .cnt f) (Tr.lift 1 0 f) (.name 0)) = some k := by
      show (match ty Γ (.right .cnt f) with
        | some (.sm a b) => (ty (a :: Γ) (Tr.lift 1 0 f)).bind fun l => (ty (b :: Γ) (.name 0)).bind fun r => kindBy .which [.sm a b, l, r]
        | _ => none) = _
      rw [e]
      show ((ty (.cnt :: Γ) (Tr.lift 1 0 f)).bind fun l => (some k).bind fun r => kindBy .which [.sm .cnt k, l, r]) = _
      rw [lf]; show (if k = k then some k else none) = _; rw [if_pos rfl]
    exact ⟨h, ⟨⟨by decide, of⟩, okT_lift f 0 of, trivial⟩, ⟨tf, tb_lift f 0 tf, trivial⟩, by simp only [Tr.size, size_lift]; omega, fun η hη => rfl⟩
  | d5 hs =>
    have e : ty Γ (.left .cnt f) = some (.sm k .cnt) := by show ((ty Γ f).bind _) = _; rw [hf]; show (if (Kd.sm k .cnt).ok then some (Kd.sm k .cnt) else none) = _; rw [if_pos o5]
    have h : ty Γ (.which (.left .cnt f) (.name 0) (Tr.lift 1 0 f)) = some k := by
      show (match ty Γ (.left .cnt f) with
        | some (.sm a b) => (ty (a :: Γ) (.name 0)).bind fun l => (ty (b :: Γ) (Tr.lift 1 0 f)).bind fun r => kindBy .which [.sm a b, l, r]
        | _ => none) = _
      rw [e]
      show ((some k).bind fun l => (ty (.cnt :: Γ) (Tr.lift 1 0 f)).bind fun r => kindBy .which [.sm k .cnt, l, r]) = _
      rw [lf]; show (if k = k then some k else none) = _; rw [if_pos rfl]
    exact ⟨h, ⟨⟨by decide, of⟩, trivial, okT_lift f 0 of⟩, ⟨tf, trivial, tb_lift f 0 tf⟩, by simp only [Tr.size, size_lift]; omega, fun η hη => rfl⟩
  | d6 n hs hn =>
    have h : ty Γ (.turns k (.told (min 1 n)) (.name 0) f) = some k := by
      show ((some Kd.cnt).bind fun n => (ty (k :: Γ) (.name 0)).bind fun u => (ty Γ f).bind fun s => kindBy (.turns k) [n, u, s]) = _
      rw [hf]; show (if k = k ∧ k = k then some k else none) = _; rw [if_pos ⟨rfl, rfl⟩]
    refine ⟨h, ⟨o1, by show min 1 n ≤ 1000000; omega, trivial, of⟩, ⟨trivial, ⟨Nat.le_refl _, by show (if 0 = 0 then 1 else 0) ≤ 1; simp⟩, tf⟩, by simp only [Tr.size]; omega, fun η hη => ?_⟩
    show itr (fun v => v) (ev f η) (num (natV (min 1 n))) = ev f η
    have : ∀ m, itr (fun v => v) (ev f η) m = ev f η := fun m => by
      induction m with
      | zero => rfl
      | succ m ih => exact ih
    exact this _
  | d7 n hs hn =>
    have h : ty Γ (.lt (.next (.told n)) (Tr.lift 1 0 f)) = some k := by
      show ((ty (.cnt :: Γ) (Tr.lift 1 0 f)).bind fun b => kindBy .lt [.cnt, b]) = _
      rw [lf]; rfl
    refine ⟨h, ⟨by show n ≤ 1000000; omega, okT_lift f 0 of⟩, ⟨trivial, tb_lift f 0 tf⟩, by simp only [Tr.size, size_lift]; omega, fun η hη => ?_⟩
    show ev (Tr.lift 1 0 f) (_ :: η) = _
    rw [ev_lift1]
theorem PairR.around {k : Kd} {Γ : List Kd} {b : Nat} {n f f' : Tr} (p : PairR k Γ b n f) (a : Arnd k f f') (hk : small k = true) (hb : 25 ≤ b) : PairR k Γ b n f' := by
  obtain ⟨h1, h2, h3, h4, h5⟩ := arnd_ok a hk hb p.tf p.of p.tb p.sf
  exact ⟨p.tn, h1, p.on, h2, h3, p.sn, h4, p.nf, fun η hη => (h5 η hη).trans (p.ev η hη)⟩
theorem ChR.pair {i : Nat} {Γ : List Kd} {m b : Nat} {n f : Tr} (c : ChR (.let_ i) Γ m n f) (h : m ≤ b) : PairR (.let_ i) Γ b n f where
  tn := c.tn
  tf := c.tf
  on := c.on
  of := c.of
  tb := c.tb
  sn := Nat.le_trans c.sn h
  sf := Nat.le_trans c.sf h
  nf := fun C s e => by
    cases C with
    | nil =>
      have e : n = s := e
      subst e
      have z := c.nf.made
      show rulesT Γ false n = []
      unfold rulesT ruleW longs
      rw [z, kOf_eq c.tn]; rfl
    | cons x C => exact c.nf (x :: C) s e
  ev := c.ev
theorem PairR.mono {k : Kd} {Γ : List Kd} {b b' : Nat} {n f : Tr} (p : PairR k Γ b n f) (h : b ≤ b') : PairR k Γ b' n f := ⟨p.tn, p.tf, p.on, p.of, p.tb, Nat.le_trans p.sn h, Nat.le_trans p.sf h, p.nf, p.ev⟩
theorem PairR.told {Γ : List Kd} {b i : Nat} (hi : i < 4) (hb : 1 ≤ b) : PairR .cnt Γ b (.told i) (.told i) where
  tn := rfl
  tf := rfl
  on := by show i ≤ 1000000; omega
  of := by show i ≤ 1000000; omega
  tb := trivial
  sn := hb
  sf := hb
  nf := fun C s e => by
    cases C with
    | nil => cases e; rfl
    | cons c C => cases c <;> cases e
  ev := fun _ _ => rfl
theorem PairR.fn {A B : Kd} {Γ : List Kd} {b : Nat} {n f : Tr} (p : PairR B (A :: Γ) b n f) (hk : small (.fn A B) = true) : PairR (.fn A B) Γ (1 + b) (.fn A n) (.fn A f) where
  tn := by show ((ty (A :: Γ) n).bind _) = _; rw [p.tn]; show (if (Kd.fn A B).ok then some (Kd.fn A B) else none) = _; rw [if_pos (small_ok hk).1]
  tf := by show ((ty (A :: Γ) f).bind _) = _; rw [p.tf]; show (if (Kd.fn A B).ok then some (Kd.fn A B) else none) = _; rw [if_pos (small_ok hk).1]
  on := ⟨(okk_fn (small_ok hk).1).1, p.on⟩
  of := ⟨(okk_fn (small_ok hk).1).1, p.of⟩
  tb := p.tb
  sn := by have := p.sn; simp only [Tr.size]; omega
  sf := by have := p.sf; simp only [Tr.size]; omega
  nf := fun C s e => by
    cases C with
    | nil => cases e; show rulesT Γ false (.fn A n) = []; unfold rulesT ruleW longs; simp [isFB, madeW]
    | cons c C => cases c <;> cases e; exact p.nf C s rfl
  ev := fun η hη => by
    show lamV A (kOf (A :: ks η) f) _ = lamV A (kOf (A :: ks η) n) _
    rw [hη, kOf_eq p.tf, kOf_eq p.tn]
    exact C1.lam_congr fun v hv => p.ev (v :: η) (by show v.k :: ks η = _; rw [hv, hη])
theorem PairR.both {A B : Kd} {Γ : List Kd} {b c : Nat} {n f n' f' : Tr} (p : PairR A Γ b n f) (q : PairR B Γ c n' f') (hk : small (.pr A B) = true) : PairR (.pr A B) Γ (1 + b + c) (.both n n') (.both f f') where
  tn := by show ((ty Γ n).bind fun a => (ty Γ n').bind fun b => kindBy .both [a, b]) = _; rw [p.tn, q.tn]; show (if (Kd.pr A B).ok then some (Kd.pr A B) else none) = _; rw [if_pos (small_ok hk).1]
  tf := by show ((ty Γ f).bind fun a => (ty Γ f').bind fun b => kindBy .both [a, b]) = _; rw [p.tf, q.tf]; show (if (Kd.pr A B).ok then some (Kd.pr A B) else none) = _; rw [if_pos (small_ok hk).1]
  on := ⟨p.on, q.on⟩
  of := ⟨p.of, q.of⟩
  tb := ⟨p.tb, q.tb⟩
  sn := by have := p.sn; have := q.sn; simp only [Tr.size]; omega
  sf := by have := p.sf; have := q.sf; simp only [Tr.size]; omega
  nf := fun C s e => by
    cases C with
    | nil => cases e; show rulesT Γ false (.both n n') = []; unfold rulesT ruleW longs; simp [isFB, madeW]
    | cons c C =>
      cases c <;> cases e
      · exact p.nf C s rfl
      · exact q.nf C s rfl
  ev := fun η hη => by show pairV _ _ = pairV _ _; rw [p.ev η hη, q.ev η hη]
theorem PairR.left {A B : Kd} {Γ : List Kd} {b : Nat} {n f : Tr} (p : PairR A Γ b n f) (hk : small (.sm A B) = true) : PairR (.sm A B) Γ (1 + b) (.left B n) (.left B f) where
  tn := by show ((ty Γ n).bind _) = _; rw [p.tn]; show (if (Kd.sm A B).ok then some (Kd.sm A B) else none) = _; rw [if_pos (small_ok hk).1]
  tf := by show ((ty Γ f).bind _) = _; rw [p.tf]; show (if (Kd.sm A B).ok then some (Kd.sm A B) else none) = _; rw [if_pos (small_ok hk).1]
  on := ⟨(okk_sm (small_ok hk).1).2, p.on⟩
  of := ⟨(okk_sm (small_ok hk).1).2, p.of⟩
  tb := p.tb
  sn := by have := p.sn; simp only [Tr.size]; omega
  sf := by have := p.sf; simp only [Tr.size]; omega
  nf := fun C s e => by
    cases C with
    | nil =>
      cases e
      show rulesT Γ false (.left B n) = []
      have e : kOf Γ (.left B n) = .sm A B := kOf_eq (by show ((ty Γ n).bind _) = _; rw [p.tn]; show (if (Kd.sm A B).ok then some (Kd.sm A B) else none) = _; rw [if_pos (small_ok hk).1])
      unfold rulesT ruleW longs
      rw [e]; simp [isFP, madeW]
    | cons c C => cases c <;> cases e; exact p.nf C s rfl
  ev := fun η hη => by show inlV _ _ = inlV _ _; rw [p.ev η hη]
theorem PairR.right {A B : Kd} {Γ : List Kd} {b : Nat} {n f : Tr} (p : PairR B Γ b n f) (hk : small (.sm A B) = true) : PairR (.sm A B) Γ (1 + b) (.right A n) (.right A f) where
  tn := by show ((ty Γ n).bind _) = _; rw [p.tn]; show (if (Kd.sm A B).ok then some (Kd.sm A B) else none) = _; rw [if_pos (small_ok hk).1]
  tf := by show ((ty Γ f).bind _) = _; rw [p.tf]; show (if (Kd.sm A B).ok then some (Kd.sm A B) else none) = _; rw [if_pos (small_ok hk).1]
  on := ⟨(okk_sm (small_ok hk).1).1, p.on⟩
  of := ⟨(okk_sm (small_ok hk).1).1, p.of⟩
  tb := p.tb
  sn := by have := p.sn; simp only [Tr.size]; omega
  sf := by have := p.sf; simp only [Tr.size]; omega
  nf := fun C s e => by
    cases C with
    | nil =>
      cases e
      show rulesT Γ false (.right A n) = []
      have e : kOf Γ (.right A n) = .sm A B := kOf_eq (by show ((ty Γ n).bind _) = _; rw [p.tn]; show (if (Kd.sm A B).ok then some (Kd.sm A B) else none) = _; rw [if_pos (small_ok hk).1])
      unfold rulesT ruleW longs
      rw [e]; simp [isFP, madeW]
    | cons c C => cases c <;> cases e; exact p.nf C s rfl
  ev := fun η hη => by show inrV _ _ = inrV _ _; rw [p.ev η hη]
/-! ## the kinds that are drawn -/
def kA : Kd := .let_ 0
def kB : Kd := .let_ 1
def kAA : Kd := .fn kA kA
def drawnK : List Kd := [.fn kA kA, .fn kAA kAA, .fn kA (.fn kB kA), .fn (.pr kA kB) (.pr kB kA), .cnt, .fn kA (.sm kA .cnt), .fn (.fn kAA kA) (.fn kA kA), .fn (.fn .cnt kA) kA, .pr .cnt (.fn kAA kAA), .fn (.pr kAA kA) kA, .fn (.fn kA (.fn kA kB)) (.fn kA kB)]
theorem drawn_ok : ∀ k ∈ drawnK, (∃ b, bP 20 k [] 2 = some b ∧ b ≤ 290) ∧ shn k = true := by
  have h : drawnK.all (fun k => (match bP 20 k [] 2 with | some b => decide (b ≤ 290) | none => false) && shn k) = true := by decide +kernel
  intro k hk
  have z := List.all_eq_true.mp h k hk
  obtain ⟨z1, z2⟩ := and2 z
  refine ⟨?_, z2⟩
  cases e : bP 20 k [] 2 with
  | none => rw [e] at z1; cases z1
  | some b => rw [e] at z1; exact ⟨b, rfl, of_decide_eq_true z1⟩
end K32

set_option maxRecDepth 100000
set_option maxHeartbeats 4000000
namespace K32
open PySem L2
def wyD : Wy → PyData
  | .fst => .str "first"
  | .snd => .str "second"
  | .arg k => k.enc
def wayD (w : List Wy) : PyData := .list (w.map wyD)
def waysD (L : List (List Wy)) : PyData := .list (L.map wayD)
theorem ways_len (k l : Kd) : (ways k l).length ≤ k.signs := by
  induction k with
  | let_ i => unfold ways; split <;> simp [Kd.signs]
  | cnt => unfold ways; split <;> simp [Kd.signs]
  | sm a b _ _ => unfold ways; split <;> simp [Kd.signs]; omega
  | pr a b ih1 ih2 => unfold ways; rw [List.length_append, List.length_map, List.length_map]; simp only [Kd.signs]; omega
  | fn a b ih1 ih2 => unfold ways; rw [List.length_map]; simp only [Kd.signs]; omega
theorem way_len (k l : Kd) : ∀ w ∈ ways k l, w.length ≤ k.signs := by
  induction k with
  | let_ i => intro w h; unfold ways at h; split at h <;> simp at h; rw [h]; simp
  | cnt => intro w h; unfold ways at h; split at h <;> simp at h; rw [h]; simp
  | sm a b _ _ => intro w h; unfold ways at h; split at h <;> simp at h; rw [h]; simp
  | pr a b ih1 ih2 =>
    intro w h
    unfold ways at h
    rcases List.mem_append.mp h with h | h <;> obtain ⟨v, hv, rfl⟩ := List.mem_map.mp h <;> simp only [Kd.signs, List.length_cons]
    · have := ih1 v hv; omega
    · have := ih2 v hv; omega
  | fn a b ih1 ih2 =>
    intro w h
    unfold ways at h
    obtain ⟨v, hv, rfl⟩ := List.mem_map.mp h
    simp only [Kd.signs, List.length_cons]
    have := ih2 v hv; omega
theorem range_getD {α : Type} {f : α → Lo} {L : List α} {d : α} : (List.range L.length).map (fun k => f (L.getD k d)) = L.map f := by
  apply List.ext_getElem
  · simp
  · intro i h1 h2
    simp at h1 h2
    simp [List.getD_eq_getElem?_getD, h1]
theorem map_getD {α : Type} {f : α → PyData} {L : List α} {d : α} {k : Nat} (h : k < L.length) : (L.map f).getD k .none = f (L.getD k d) := by
  rw [List.getD_eq_getElem?_getD, List.getElem?_map, List.getElem?_eq_getElem h, List.getD_eq_getElem?_getD, List.getElem?_eq_getElem h]; rfl
theorem getD_mem {α : Type} {L : List α} {d : α} {k : Nat} (h : k < L.length) : L.getD k d ∈ L := by
  rw [List.getD_eq_getElem?_getD, List.getElem?_eq_getElem h]; exact List.getElem_mem h
theorem kept_list {α β : Type} {f : α → β} {g : α → Bool} {L : List α} {d : α} : kept L.length (fun k => g (L.getD k d)) (fun k => f (L.getD k d)) = (L.filter g).map f := by
  unfold kept
  have e : (List.range L.length).map (fun k => L.getD k d) = L := by
    apply List.ext_getElem
    · simp
    · intro i h1 h2
      simp at h1 h2
      simp [List.getD_eq_getElem?_getD, h2]
  conv => rhs; rw [← e]
  rw [List.filter_map, List.map_map]
  rfl
section
variable {P : Program} {w : World} {K : PySem.W.Frag} {mg : Str → Option Value} {base : Heap}
def R_lsteps : Owns → List Lo → Post → Prop := fun M ls Po => ∃ (t : Tr) (k : Kd), M = [] ∧ ls = [.d t.enc] ∧ t.size ≤ 300 ∧ t.deep ≤ 200 ∧ ty [] t = some k ∧ Po = fun M' l => M' = [] ∧ ∃ ys : List (Nat × Str), ys.Perm (looks [] 0 false t) ∧ l = .d (stepsD ys)
def R_ldk : Owns → List Lo → Post → Prop := fun M ls Po => ∃ (p : Addr), M = [(p, .pot)] ∧ ls = [.v (.ref p)] ∧ Po = fun M' l => M' = [(p, .pot)] ∧ ∃ k ∈ drawnK, l = .d k.enc
def R_lways (n : Nat) : List PyData → PyData → Prop := fun ds d => ∃ (k l : Kd), ds = [k.enc, l.enc] ∧ k.deep ≤ n ∧ l.deep ≤ 100 ∧ k.signs ≤ 1000 ∧ d = waysD (ways k l)
def R_lcalls : List PyData → PyData → Prop := fun ds d => ∃ (v : List Wy), ds = [wayD v] ∧ v.length ≤ 1000 ∧ d = .int (wcalls v : Nat)
theorem d__law_steps (T : Tx w K mg) : Def P w K mg base CX0 "_law_steps" 203 ["_law_tree_here"] (spO K R_lsteps) := by
  refine def_O (f__law_steps T) (g__law_steps T) sc__law_steps (fun _ _ _ _ _ _ us hl => match us, hl with | [_], _ => rfl) (fun M ls Po h => by obtain ⟨t, k, rfl, rfl, hz, hdp, hty, rfl⟩ := h; rfl) fun cdv A outer s H E hr M ls Po h O D hD hq => ?_
  obtain ⟨t, k, rfl, rfl, hz, hdp, hty, rfl⟩ := h
  have hdl := deep_le t
  refine go_retX (Ev.ex (ev_sortedPS (b_sorted T) (ed_ixT (ds := [k.enc, stepsD (looks [] 0 false t), .int ((0 + t.size : Nat) : Int)]) (ed_callR (ds := [t.enc, envD [], .int (0 : Nat), .bool false]) ((d_llook T 200).up (by decide)) hr (ea_cons (ed_v 0) (ea_cons (ed_lst (ds := []) ea_nil) (ea_cons ed_int (ea_cons ed_bl ea_nil)))) ⟨t, [], 0, false, k, rfl, by omega, by omega, by simp; omega, hty, rfl⟩) ed_int))) (hq.imp fun M' l h => h)
theorem d__law_calls (T : Tx w K mg) : Def P w K mg base CX0 "_law_calls" 1 ["_law_way"] (spR K R_lcalls) := by
  refine def_R (f__law_calls T) (g__law_calls T) sc__law_calls (fun _ _ _ _ _ _ us hl => match us, hl with | [_], _ => rfl) (fun ds d h => by obtain ⟨v, rfl, hv, rfl⟩ := h; rfl) fun cdv A outer s H E hr ds d h O D hD hq => ?_
  obtain ⟨v, rfl, hv, rfl⟩ := h
  refine go_ret (ed_is (ed_lenL (b_len T) (El.ed (El.is (el_lcIf 1 (q := fun k => (v.getD k .fst).isArg) (ls := fun k => .d (wyD (v.getD k .fst))) rfl sc__law_calls.nd (it_list (ed_v 0)) (blkOk_by (N := N__law_calls) (sc := defScope sL_calls) (own := [("_law_step", 1)]) (by decide +kernel)) (fun _ _ _ _ _ => pg_name (i := 1) sc__law_calls.nd rfl (.inl rfl)) (by rw [List.length_map]; omega)
    (fun L p w' j hj s' H' C' cl fp => ?_) (fun L p w' j hj hq' s' H' C' cl fp => ?_)) (ks := ((v.filter Wy.isArg).map wyD).map .d) ?_))) ?_) hq
  · rw [List.length_map] at hj
    rw [map_getD (d := .fst) hj]
    cases v.getD j .fst with
    | fst => exact et_b (et_not (et_v (ed_isn "str" "str" true (b_isinstance T) (ed_v 1) (b_str T)))) rfl
    | snd => exact et_b (et_not (et_v (ed_isn "str" "str" true (b_isinstance T) (ed_v 1) (b_str T)))) rfl
    | arg k => cases k <;> exact et_b (et_not (et_v (ed_isn "str" "tuple" false (b_isinstance T) (ed_v 1) (b_str T)))) rfl
  · rw [List.length_map] at hj
    rw [map_getD (d := .fst) hj]
    exact ed_v 1
  · rw [List.length_map]
    rw [kept_list (f := fun x => Lo.d (wyD x)) (g := Wy.isArg), List.map_map]
    rfl
  · rw [List.length_map]; rfl
theorem d_lways (T : Tx w K mg) : ∀ n, Def P w K mg base CX0 "_law_ways" (n + 1) ["_law_kind_here", "_law_letter"] (spR K (R_lways n)) := by
  intro n
  induction n with
  | zero =>
    refine def_R (f__law_ways T) (g__law_ways T) sc__law_ways (fun _ _ _ _ _ _ us hl => match us, hl with | [_, _], _ => rfl) (fun ds d h => by obtain ⟨k, l, rfl, _⟩ := h; rfl) fun cdv A outer s H E hr ds d h O D hD hq => ?_
    obtain ⟨k, l, rfl, h, _⟩ := h
    have := deep_pos k
    omega
  | succ n ih =>
    refine def_R (f__law_ways T) (g__law_ways T) sc__law_ways (fun _ _ _ _ _ _ us hl => match us, hl with | [_, _], _ => rfl) (fun ds d h => by obtain ⟨k, l, rfl, _⟩ := h; rfl) fun cdv A outer s H E hr ds d h O D hD hq => ?_
    obtain ⟨k, l, rfl, hd, hl, hs, rfl⟩ := h
    have leaf : ways k l = (if k = l then [[]] else []) → k.word ≠ "pair" → k.word ≠ "fun" → Go (cxD P w K mg base "_law_ways" sL_ways N__law_ways (He.ga K "_law_ways") cdv A outer s H E) O [] (at0 N__law_ways [k.enc, l.enc]) D (defBody sL_ways) := fun e h1 h2 => by
      refine go_skip (et_b (et_eqS (ed_kword (ed_v 0)) ed_str) (decide_eq_false h1)) ?_
      refine go_skip (et_b (et_eqS (ed_kword (ed_v 0)) ed_str) (decide_eq_false h2)) ?_
      refine go_ret (ed_is (ed_if (k := decide (k = l)) (l := .d (waysD (if k = l then [[]] else []))) (et_b (et_eq hr.r64 (ed_v 0) (ed_v 1) ⟨k.lay, l.lay, .inr (by have := l.dep; omega)⟩) (Kd.eqv k l)) (fun q => ?_) (fun q => ?_)) (by rw [e])) hq
      · rw [if_pos (of_decide_eq_true q)]
        exact ed_lst (ds := [.list []]) (ea_cons (ed_lst (ds := []) ea_nil) ea_nil)
      · rw [if_neg (of_decide_eq_false q)]
        exact ed_lst (ds := []) ea_nil
    cases k with
    | let_ i => exact leaf (by unfold ways; rfl) (by simp only [Kd.word]; decide) (by simp only [Kd.word]; decide)
    | cnt => exact leaf (by unfold ways; rfl) (by simp only [Kd.word]; decide) (by simp only [Kd.word]; decide)
    | sm a b => exact leaf (by unfold ways; rfl) (by simp only [Kd.word]; decide) (by simp only [Kd.word]; decide)
    | pr a b =>
      simp only [Kd.deep, Kd.signs] at hd hs
      have la := ways_len a l
      have lb := ways_len b l
      refine go_take (et_b (et_eqS (ed_kword (ed_v 0)) ed_str) rfl) ?_
      refine go_setLcG (own := [("_law_way", 2)]) (ρ1 := fun k => [.d (Kd.pr a b).enc, .d l.enc, .d (((ways a l).map wayD).getD k .none), .no]) (q := fun _ => true) (ls := fun j => .d (wayD (Wy.fst :: (ways a l).getD j []))) 3 rfl sc__law_ways.nd rfl rfl rfl
        (it_list (ed_callR (ds := [a.enc, l.enc]) ih hr (ea_cons (ed_ixT (ds := [.str "pair", a.enc, b.enc]) (ed_v 0) ed_int) (ea_cons (ed_v 1) ea_nil)) ⟨a, l, rfl, by omega, hl, by omega, rfl⟩))
        (blkOk_by (N := N__law_ways) (sc := defScope sL_ways) (own := [("_law_way", 2)]) (by decide +kernel)) (fun _ _ _ _ _ => pg_name (i := 2) sc__law_ways.nd rfl (.inl rfl)) (fun _ _ _ _ _ => pts_nil) (by rw [List.length_map]; omega) tgt_one tst_yes (fun L p w' j hj _ s' H' C' cl fp => ?_) fun np hnp => ?_
      · rw [List.length_map] at hj
        rw [map_getD (d := []) hj]
        have := way_len a l _ (getD_mem (d := []) hj)
        exact El.ed (el_cat (ds := [.str "first"]) (fs := ((ways a l).getD j []).map wyD) (ed_lst (ds := [.str "first"]) (ea_cons ed_str ea_nil)) (ed_v 2) (by simp only [List.length_map, List.length_cons, List.length_nil]; omega))
      rw [kept_all, List.length_map, range_getD (f := fun w => Lo.d (wayD (Wy.fst :: w)))]
      refine go_freeze (ds := ((ways a l).map (Wy.fst :: ·)).map wayD) 0 3 hnp ?_ (by simp only [List.map_map]; rfl)
      refine go_ret (El.ed (El.is (el_cat (ds := ((ways a l).map (Wy.fst :: ·)).map wayD) (fs := ((ways b l).map (Wy.snd :: ·)).map wayD) (ed_v 3) (El.ed (El.is (el_lc 2 (ls := fun j => .d (wayD (Wy.snd :: (ways b l).getD j []))) rfl sc__law_ways.nd (it_list (ed_callR (ds := [b.enc, l.enc]) ih hr (ea_cons (ed_ixT (ds := [.str "pair", a.enc, b.enc]) (ed_v 0) ed_int) (ea_cons (ed_v 1) ea_nil)) ⟨b, l, rfl, by omega, hl, by omega, rfl⟩))
        (blkOk_by (N := N__law_ways) (sc := defScope sL_ways) (own := [("_law_way", 2)]) (by decide +kernel)) (fun _ _ _ _ _ => pg_name (i := 2) sc__law_ways.nd rfl (.inl rfl)) (by rw [List.length_map]; omega) (fun L p w' j hj s' H' C' cl fp => ?_)) ?_)) (by simp only [List.length_map]; omega)) (by rw [← List.map_append]; rfl))) hq
      · rw [List.length_map] at hj
        rw [map_getD (d := []) hj]
        have := way_len b l _ (getD_mem (d := []) hj)
        exact El.ed (el_cat (ds := [.str "second"]) (fs := ((ways b l).getD j []).map wyD) (ed_lst (ds := [.str "second"]) (ea_cons ed_str ea_nil)) (ed_v 2) (by simp only [List.length_map, List.length_cons, List.length_nil]; omega))
      · rw [List.length_map, range_getD (f := fun w => Lo.d (wayD (Wy.snd :: w)))]
        simp only [List.map_map]
        rfl
    | fn a b =>
      simp only [Kd.deep, Kd.signs] at hd hs
      have lb := ways_len b l
      refine go_skip (et_b (et_eqS (ed_kword (ed_v 0)) ed_str) rfl) ?_
      refine go_take (et_b (et_eqS (ed_kword (ed_v 0)) ed_str) rfl) ?_
      refine go_ret (El.ed (El.is (el_lc 2 (ls := fun j => .d (wayD (Wy.arg a :: (ways b l).getD j []))) rfl sc__law_ways.nd (it_list (ed_callR (ds := [b.enc, l.enc]) ih hr (ea_cons (ed_ixT (ds := [.str "fun", a.enc, b.enc]) (ed_v 0) ed_int) (ea_cons (ed_v 1) ea_nil)) ⟨b, l, rfl, by omega, hl, by omega, rfl⟩))
        (blkOk_by (N := N__law_ways) (sc := defScope sL_ways) (own := [("_law_way", 2)]) (by decide +kernel)) (fun _ _ _ _ _ => pg_name (i := 2) sc__law_ways.nd rfl (.inl rfl)) (by rw [List.length_map]; omega) (fun L p w' j hj s' H' C' cl fp => ?_)) ?_)) hq
      · rw [List.length_map] at hj
        rw [map_getD (d := []) hj]
        have := way_len b l _ (getD_mem (d := []) hj)
        exact El.ed (el_cat (ds := [a.enc]) (fs := ((ways b l).getD j []).map wyD) (ed_lst (ds := [a.enc]) (ea_cons (ed_ixT (ds := [.str "fun", a.enc, b.enc]) (ed_v 0) ed_int) ea_nil)) (ed_v 2) (by simp only [List.length_map, List.length_cons, List.length_nil]; omega))
      · rw [List.length_map, range_getD (f := fun w => Lo.d (wayD (Wy.arg a :: w)))]
        simp only [List.map_map, ways]
        rfl
end
end K32

set_option maxRecDepth 100000
set_option maxHeartbeats 4000000
namespace K32
open PySem L2
section
variable {X : Cx} {O : Og} {M : Owns} {ρ : List Lo} {a b : Expr} {pos p1 : Pos} {j kt : Nat} {x y : Kd}
theorem ed_kf (ha : Ed X O M ρ a (.d x.enc)) (hb : Ed X O M ρ b (.d y.enc)) (h0 : starEach [.Constant (.str "fun") j p1, a, b] X.env = (false, eval (.Constant (.str "fun") j p1) X.env) :: starEach [a, b] X.env := by rfl) (h1 : starEach [a, b] X.env = (false, eval a X.env) :: starEach [b] X.env := by rfl) (h2 : starEach [b] X.env = (false, eval b X.env) :: starEach [] X.env := by rfl) : Ed X O M ρ (.Tuple [.Constant (.str "fun") j p1, a, b] kt pos) (.d (Kd.fn x y).enc) :=
  ed_tup (ds := [.str "fun", x.enc, y.enc]) (ea_cons ed_str (ea_cons ha (ea_cons hb ea_nil h2) h1) h0)
theorem ed_kp (ha : Ed X O M ρ a (.d x.enc)) (hb : Ed X O M ρ b (.d y.enc)) (h0 : starEach [.Constant (.str "pair") j p1, a, b] X.env = (false, eval (.Constant (.str "pair") j p1) X.env) :: starEach [a, b] X.env := by rfl) (h1 : starEach [a, b] X.env = (false, eval a X.env) :: starEach [b] X.env := by rfl) (h2 : starEach [b] X.env = (false, eval b X.env) :: starEach [] X.env := by rfl) : Ed X O M ρ (.Tuple [.Constant (.str "pair") j p1, a, b] kt pos) (.d (Kd.pr x y).enc) :=
  ed_tup (ds := [.str "pair", x.enc, y.enc]) (ea_cons ed_str (ea_cons ha (ea_cons hb ea_nil h2) h1) h0)
theorem ed_ks (ha : Ed X O M ρ a (.d x.enc)) (hb : Ed X O M ρ b (.d y.enc)) (h0 : starEach [.Constant (.str "sum") j p1, a, b] X.env = (false, eval (.Constant (.str "sum") j p1) X.env) :: starEach [a, b] X.env := by rfl) (h1 : starEach [a, b] X.env = (false, eval a X.env) :: starEach [b] X.env := by rfl) (h2 : starEach [b] X.env = (false, eval b X.env) :: starEach [] X.env := by rfl) : Ed X O M ρ (.Tuple [.Constant (.str "sum") j p1, a, b] kt pos) (.d (Kd.sm x y).enc) :=
  ed_tup (ds := [.str "sum", x.enc, y.enc]) (ea_cons ed_str (ea_cons ha (ea_cons hb ea_nil h2) h1) h0)
/-- min of a list -/
theorem ed_minL {ns : List Nat} {m : Nat} (hc : X.calm = true) (hm : X.mg "min" = none) (ha : Ed X O M ρ a (.d (.list (ns.map fun n : Nat => .int n)))) (h1 : m ∈ ns) (h2 : ∀ y ∈ ns, m ≤ y) (hg : Gl X "min" := by rfl) (hs : starEach [a] X.env = (false, eval a X.env) :: starEach [] X.env := by rfl) : Ed X O M ρ (.Call (.Name "min" p1) [a] [] pos) (.d (.int m)) :=
  ed_callB (cr_min hc) hm (ea_cons ha ea_nil hs) (fun B σ H S vs r Q q => by
    cases r with
    | cons r1 r2 =>
      cases r2
      have r1 : Da X.K B _ (.list (ns.map fun n : Nat => .int n)) := r1
      cases r1 with
      | lst g1 g2 =>
        have e : ∀ {ns : List Nat} {xs : List V}, DaAll X.K B xs (ns.map fun n : Nat => .int n) → xs = (ns.map fun n : Nat => (n : Int)).map V.int := by
          intro ns
          induction ns with
          | nil => intro xs h; cases h; rfl
          | cons n ns ih =>
            intro xs h
            cases h with
            | cons h1 h2 => cases h1; rw [ih h2]; rfl
        have e2 := e g2
        subst e2
        refine ⟨_, ns.map fun n : Nat => (n : Int), rfl, SqL.of (S.bh _ _ g1), ?_, fun z hz hz2 => ?_⟩
        · rw [List.length_map]; exact List.length_pos_of_mem h1
        · have : z = (m : Int) := by
            obtain ⟨n, hn, rfl⟩ := List.mem_map.mp hz
            have a1 := hz2 (m : Int) (List.mem_map.mpr ⟨m, h1, rfl⟩)
            have a2 := h2 n hn
            omega
          subst this
          exact q _ B H (Same.refl _) S (.int _)) (by decide +kernel) hg (by decide) (by decide) hs
end
section
variable {P : Program} {w : World} {K : PySem.W.Frag} {mg : Str → Option Value} {base : Heap}
theorem d__law_drawn_kind (T : Tx w K mg) : Def P w K mg base CX0 "_law_drawn_kind" 3 ["_law_pot_here"] (spO K R_ldk) := by
  refine def_O (f__law_drawn_kind T) (g__law_drawn_kind T) sc__law_drawn_kind (fun _ _ _ _ _ _ us hl => match us, hl with | [_], _ => rfl) (fun M ls Po h => by obtain ⟨p, rfl, rfl, rfl⟩ := h; rfl) fun cdv A outer s H E hr M ls Po h O D hD hq => ?_
  obtain ⟨p, rfl, rfl, rfl⟩ := h
  have kl0 : ∀ {X : Cx} {O : Og} {M : Owns} {ρ : List Lo} {i j k : Nat} {q0 q1 pos : Pos}, Ed X O M ρ (.Tuple [.Constant (.str "letter") j q0, .Constant (.int i) k q1] 0 pos) (.d (Kd.let_ i).enc) := fun {X O M ρ i j k q0 q1 pos} => ed_tup (ds := [.str "letter", .int i]) (ea_cons ed_str (ea_cons ed_int ea_nil))
  refine go_tup (d := .tuple [kA.enc, kB.enc, Kd.cnt.enc]) (ed_tup (ds := [kA.enc, kB.enc, Kd.cnt.enc]) (ea_cons (ed_tup (ds := [.str "letter", .int (0 : Nat)]) (ea_cons ed_str (ea_cons ed_int ea_nil))) (ea_cons (ed_tup (ds := [.str "letter", .int (1 : Nat)]) (ea_cons ed_str (ea_cons ed_int ea_nil))) (ea_cons (ed_tup (ds := [.str "count"]) (ea_cons ed_str ea_nil)) ea_nil))))
    (pg_tup rfl (pgs_cons (pg_name (i := 1) sc__law_drawn_kind.nd rfl (.inl rfl)) (pgs_cons (pg_name (i := 2) sc__law_drawn_kind.nd rfl (.inl rfl)) (pgs_cons (pg_name (i := 3) sc__law_drawn_kind.nd rfl (.inl rfl)) pgs_nil)))) (tg_three 1 2 3) ?_
  refine go_asg (l := .d kAA.enc) 4 sc__law_drawn_kind.nd (ed_kf (x := kA) (y := kA) (ed_v 1) (ed_v 1)) ?_
  refine go_asg (l := .d (.list ((drawnK.take 5).map Kd.enc))) 5 sc__law_drawn_kind.nd (ed_lst (ds := (drawnK.take 5).map Kd.enc) (ea_cons (ed_kf (x := kA) (y := kA) (ed_v 1) (ed_v 1)) (ea_cons (ed_kf (x := kAA) (y := kAA) (ed_v 4) (ed_v 4)) (ea_cons (ed_kf (x := kA) (y := .fn kB kA) (ed_v 1) (ed_kf (x := kB) (y := kA) (ed_v 2) (ed_v 1))) (ea_cons (ed_kf (x := .pr kA kB) (y := .pr kB kA) (ed_kp (x := kA) (y := kB) (ed_v 1) (ed_v 2)) (ed_kp (x := kB) (y := kA) (ed_v 2) (ed_v 1))) (ea_cons (ed_v 3) ea_nil))))) (by decide)) ?_
  refine go_asgL (ls := ((drawnK.take 7).map Kd.enc).map .d) 5 sc__law_drawn_kind.nd (El.is (el_cat (ds := (drawnK.take 5).map Kd.enc) (fs := [Kd.enc (.fn kA (.sm kA .cnt)), Kd.enc (.fn (.fn kAA kA) (.fn kA kA))]) (ed_v 5) (ed_lst (ds := [Kd.enc (.fn kA (.sm kA .cnt)), Kd.enc (.fn (.fn kAA kA) (.fn kA kA))]) (ea_cons (ed_kf (x := kA) (y := .sm kA .cnt) (ed_v 1) (ed_ks (x := kA) (y := .cnt) (ed_v 1) (ed_v 3))) (ea_cons (ed_kf (x := .fn kAA kA) (y := .fn kA kA) (ed_kf (x := kAA) (y := kA) (ed_v 4) (ed_v 1)) (ed_kf (x := kA) (y := kA) (ed_v 1) (ed_v 1))) ea_nil))) (by decide)) rfl) fun q hq0 => ?_
  refine go_append 0 5 (ed_v 5) rfl (l := .d (Kd.fn (.fn .cnt kA) kA).enc) (ed_kf (x := .fn .cnt kA) (y := kA) (ed_kf (x := .cnt) (y := kA) (ed_v 3) (ed_v 1)) (ed_v 1)) (by decide) ?_
  refine go_extend 0 5 (ds := [Kd.enc (.pr .cnt (.fn kAA kAA)), Kd.enc (.fn (.pr kAA kA) kA)]) (ed_v 5) rfl (ed_lst (ds := [Kd.enc (.pr .cnt (.fn kAA kAA)), Kd.enc (.fn (.pr kAA kA) kA)]) (ea_cons (ed_kp (x := .cnt) (y := .fn kAA kAA) (ed_v 3) (ed_kf (x := kAA) (y := kAA) (ed_v 4) (ed_v 4))) (ea_cons (ed_kf (x := .pr kAA kA) (y := kA) (ed_kp (x := kAA) (y := kA) (ed_v 4) (ed_v 1)) (ed_v 1)) ea_nil))) (by decide) ?_
  refine go_append 0 5 (ed_v 5) rfl (l := .d (Kd.fn (.fn kA (.fn kA kB)) (.fn kA kB)).enc) (ed_kf (x := .fn kA (.fn kA kB)) (y := .fn kA kB) (ed_kf (x := kA) (y := .fn kA kB) (ed_v 1) (ed_kf (x := kA) (y := kB) (ed_v 1) (ed_v 2))) (ed_kf (x := kA) (y := kB) (ed_v 1) (ed_v 2))) (by decide) ?_
  refine go_freeze (ds := drawnK.map Kd.enc) 0 5 hq0 ?_ rfl
  refine go_retX (P := fun M' l => M' = [(p, .pot)] ∧ ∃ d ∈ drawnK.map Kd.enc, l = .d d) (ex_call ((d__law_pick T).up (by decide)) hr (ea_cons (ed_v 0) (ea_cons (ed_v 5) ea_nil)).ac ?_) (hq.imp fun M' l h => ?_)
  · rintro M1 ls ⟨rfl, rfl⟩
    refine ⟨[(p, .pot)], [], _, List.Perm.refl _, ⟨p, drawnK.map Kd.enc, rfl, rfl, by decide, by decide, rfl⟩, fun M' l h => ?_⟩
    rw [List.append_nil]
    exact h
  · obtain ⟨rfl, d, hd, rfl⟩ := h
    obtain ⟨k, hk, rfl⟩ := List.mem_map.mp hd
    exact ⟨rfl, k, hk, rfl⟩
end
end K32

set_option maxRecDepth 100000
set_option maxHeartbeats 4000000
namespace K32
open PySem L2
def headD (q : Nat × List Wy) : PyData := .tuple [.int q.1, wayD q.2]
theorem headsF_app (l : Kd) : ∀ (Γ Δ : List Kd) (j : Nat), headsF j (Γ ++ Δ) l = headsF j Γ l ++ headsF (j + Γ.length) Δ l
  | [], Δ, j => rfl
  | A :: Γ, Δ, j => by
    show (ways A l).map _ ++ headsF (j + 1) (Γ ++ Δ) l = ((ways A l).map _ ++ headsF (j + 1) Γ l) ++ _
    rw [headsF_app l Γ Δ (j + 1), List.append_assoc, List.length_cons, show j + 1 + Γ.length = j + (Γ.length + 1) by omega]
theorem headsF_take {Γ : List Kd} {i : Nat} {A : Kd} (l : Kd) (h : Γ[i]? = some A) : headsF 0 (Γ.take (i + 1)) l = headsF 0 (Γ.take i) l ++ (ways A l).map fun w => (i, w) := by
  have hi := (List.getElem?_eq_some_iff.mp h).1
  rw [take_succ' h, headsF_app, List.length_take, Nat.min_eq_left (by omega), Nat.zero_add]
  show _ ++ ((ways A l).map _ ++ []) = _
  rw [List.append_nil]
theorem headsF_len (l : Kd) : ∀ (Γ : List Kd) (j : Nat), (∀ A ∈ Γ, A.signs ≤ 60) → (headsF j Γ l).length ≤ 60 * Γ.length
  | [], _, _ => Nat.zero_le _
  | A :: Γ, j, h => by
    have h1 := ways_len A l
    have h2 := h A List.mem_cons_self
    have h3 := headsF_len l Γ (j + 1) fun B hB => h B (List.mem_cons_of_mem _ hB)
    show ((ways A l).map _ ++ headsF (j + 1) Γ l).length ≤ 60 * (Γ.length + 1)
    rw [List.length_append, List.length_map]
    omega
theorem exists_min : ∀ {ns : List Nat}, ns ≠ [] → ∃ m ∈ ns, ∀ y ∈ ns, m ≤ y
  | [], h => absurd rfl h
  | [n], _ => ⟨n, by simp, by simp⟩
  | n :: k :: r, _ => by
    obtain ⟨m, h1, h2⟩ := exists_min (ns := k :: r) (by simp)
    by_cases h : n ≤ m
    · refine ⟨n, List.mem_cons_self, fun y hy => ?_⟩
      rcases List.mem_cons.mp hy with rfl | hy
      · exact Nat.le_refl _
      · exact Nat.le_trans h (h2 y hy)
    · refine ⟨m, List.mem_cons_of_mem _ h1, fun y hy => ?_⟩
      rcases List.mem_cons.mp hy with rfl | hy
      · omega
      · exact h2 y hy
theorem Et.go {X : Cx} {O : Og} {M : Owns} {ρ : List Lo} {c : Expr} {k : Bool} {B H : Hp} {σ : L2.St} {Q : Bool → Hp → Prop} (S : Sit X.K O B M ρ σ H) (h : Et X O M ρ c k) (z : ∀ B' H', Same B B' → Sit X.K O B' M ρ σ H' → Q k H') : wT X c σ H Q := h B σ H S Q z
section
variable {P : Program} {w : World} {K : PySem.W.Frag} {mg : Str → Option Value} {base : Heap}
def R_lhead : Owns → List Lo → Post → Prop := fun M ls Po => ∃ (p : Addr) (l : Kd) (Γ : List Kd) (deep : Int), M = [(p, .pot)] ∧ ls = [.v (.ref p), .d l.enc, .d (envD Γ), .d (.int deep)] ∧ l.deep ≤ 100 ∧ (∀ A ∈ Γ, A.signs ≤ 60) ∧ (∀ A ∈ Γ, A.deep ≤ 12) ∧ Γ.length ≤ 100 ∧ headsF 0 Γ l ≠ [] ∧
  Po = fun M' lo => M' = [(p, .pot)] ∧ ∃ q ∈ cands Γ l deep, lo = .d (headD q)
theorem d__law_head (T : Tx w K mg) : Def P w K mg base CX0 "_law_head" 14 ["_law_pot_here", "_law_kind_here", "_law_env", "_law_deep"] (spO K R_lhead) := by
  refine def_O (f__law_head T) (g__law_head T) sc__law_head (fun _ _ _ _ _ _ us hl => match us, hl with | [_, _, _, _], _ => rfl) (fun M ls Po h => by obtain ⟨p, l, Γ, deep, rfl, rfl, hl, hs, hd, hz, hne, rfl⟩ := h; rfl) fun cdv A outer s H E hr M ls Po h O D hD hq => ?_
  obtain ⟨p, l, Γ, deep, rfl, rfl, hl, hs, hd, hz, hne, rfl⟩ := h
  have hlen : ∀ i, (headsF 0 (Γ.take i) l).length ≤ 6000 := fun i => by
    have := headsF_len l (Γ.take i) 0 fun A hA => hs A (List.mem_of_mem_take hA)
    rw [List.length_take] at this
    omega
  have hlenL : (headsF 0 Γ l).length ≤ 6000 := by have := hlen Γ.length; rwa [List.take_length] at this
  refine go_asgL (ls := []) 4 sc__law_head.nd (el_lst ea_nil) fun fp hfp => ?_
  refine go_for (fun i => [(fp, .lst (((headsF 0 (Γ.take i) l).map headD).map .d)), (p, .pot)]) (fun i => [.v (.ref p), .d l.enc, .d (envD Γ), .d (.int deep), .v (.ref fp), .no, .no, .no, .no, .no])
    (it_enum (b_enumerate T) (ed_v 2)) (pg_tup rfl (pgs_cons (pg_name (i := 5) sc__law_head.nd rfl (.inr rfl)) (pgs_cons (pg_name (i := 6) sc__law_head.nd rfl (.inl rfl)) pgs_nil))) rfl rfl (fun L i hi => ⟨_, tg_two 5 6, ?_⟩) ?_
  · rw [List.length_map] at hi
    obtain ⟨A, hA⟩ := get_lt hi
    have hAm := List.mem_of_getElem? hA
    have e : (Γ.map Kd.enc).getD i .none = A.enc := by rw [List.getD_eq_getElem?_getD, List.getElem?_map, hA]; rfl
    rw [e]
    have h1 := ways_len A l
    have h2 := hs A hAm
    have h3 := hd A hAm
    have h4 := hlen i
    refine go_extend (ds := (ways A l).map fun v => headD (i, v)) 0 4 (ed_v 4) rfl (El.ed (El.is (el_lc 7 (ls := fun j => .d (headD (i, (ways A l).getD j []))) rfl sc__law_head.nd (it_list (ed_callR (ds := [A.enc, l.enc]) ((d_lways T 12).up (by decide)) hr (ea_cons (ed_v 6) (ea_cons (ed_v 1) ea_nil)) ⟨A, l, rfl, h3, hl, by omega, rfl⟩))
      (blkOk_by (N := N__law_head) (sc := defScope sL_head) (own := [("_law_way", 7)]) (by decide +kernel)) (fun _ _ _ _ _ => pg_name (i := 7) sc__law_head.nd rfl (.inl rfl)) (by rw [List.length_map]; omega) (fun L p w' j hj s' H' C' cl fp => ?_)) ?_)) (by simp only [List.length_map]; omega) ?_
    · rw [List.length_map] at hj
      rw [map_getD (d := []) hj]
      exact ed_tup (ds := [.int i, wayD ((ways A l).getD j [])]) (ea_cons (ed_v 5) (ea_cons (ed_v 7) ea_nil))
    · rw [List.length_map, range_getD (f := fun v => Lo.d (headD (i, v))), List.map_map]
      rfl
    · refine go_turnW ?_
      rw [headsF_take l hA]
      simp only [List.set_cons_zero, List.map_append, List.map_map]
      rfl
  · rw [List.length_map, List.take_length]
    generalize hL : headsF 0 Γ l = L at hne hlenL
    refine go_freeze (ds := L.map headD) 0 4 hfp ?_ rfl
    have hway : ∀ q ∈ L, q.2.length ≤ 1000 := fun q hq0 => by
      obtain ⟨A, _, hA, hw⟩ := heads_to (Γ := Γ) (j := 0) (l := l) (i := q.1) (w := q.2) (by rw [hL]; exact hq0)
      have := way_len A l _ hw
      have := hs A (List.mem_of_getElem? hA)
      omega
    obtain ⟨m, hm1, hm2⟩ := exists_min (ns := L.map fun q => wcalls q.2) (by intro e; exact hne (List.map_eq_nil_iff.mp e))
    refine go_asg (l := .d (.int (m : Nat))) 8 sc__law_head.nd (ed_minL (ns := L.map fun q => wcalls q.2) rfl (b_min T) (El.ed (El.is (el_lc2 5 7 (di := fun j => .int (L.getD j (0, [])).1) (dj := fun j => wayD (L.getD j (0, [])).2) (ls := fun j => .d (.int (wcalls (L.getD j (0, [])).2 : Nat))) (by decide) rfl sc__law_head.nd (Iter.congr (it_list (ed_v 4)) fun j hj => ?_)
      (blkOk_by (N := N__law_head) (sc := defScope sL_head) (own := [("_law_place", 5), ("_law_way", 7)]) (by decide +kernel)) (fun _ _ _ _ _ => pg_tup rfl (pgs_cons (pg_name (i := 5) sc__law_head.nd rfl (.inl rfl)) (pgs_cons (pg_name (i := 7) sc__law_head.nd rfl (.inl rfl)) pgs_nil))) (by rw [List.length_map]; omega) (fun L' p w' j hj s' H' C' cl fp => ?_)) ?_)) hm1 hm2) ?_
    · rw [List.length_map] at hj
      rw [map_getD (d := (0, [])) hj]
      rfl
    · rw [List.length_map] at hj
      exact ed_callR (ds := [wayD (L.getD j (0, [])).2]) ((d__law_calls T).up (by decide)) hr (ea_cons (ed_v 7) ea_nil) ⟨_, rfl, hway _ (getD_mem hj), rfl⟩
    · rw [List.length_map, range_getD (f := fun q : Nat × List Wy => Lo.d (.int (wcalls q.2 : Nat)))]
      simp only [List.map_map]
      rfl
    refine go_setLcG (own := [("_law_place", 5), ("_law_way", 7)]) (ρ1 := fun j => [.v (.ref p), .d l.enc, .d (envD Γ), .d (.int deep), .d (.list (L.map headD)), .d (.int (L.getD j (0, [])).1), .no, .d (wayD (L.getD j (0, [])).2), .d (.int (m : Nat)), .no]) (q := fun j => decide (wcalls (L.getD j (0, [])).2 = m)) (ls := fun j => .d (headD (L.getD j (0, []))))
      (tt := wBt _ _ _) 9 rfl sc__law_head.nd rfl rfl rfl (Iter.congr (it_list (ed_v 4)) fun j hj => ?_)
      (blkOk_by (N := N__law_head) (sc := defScope sL_head) (own := [("_law_place", 5), ("_law_way", 7)]) (by decide +kernel)) (fun _ _ _ _ _ => pg_tup rfl (pgs_cons (pg_name (i := 5) sc__law_head.nd rfl (.inl rfl)) (pgs_cons (pg_name (i := 7) sc__law_head.nd rfl (.inl rfl)) pgs_nil))) (fun s H0 C cl fp => pts_one ⟨fun pins s' σ' H' Q' I h => wT_at (h s H0 C cl fp) pins s' I⟩) (by rw [List.length_map]; omega)
      (tgt_two (i := 5) (j := 7) (x := "_law_place") (y := "_law_way") (di := fun j => .int (L.getD j (0, [])).1) (dj := fun j => wayD (L.getD j (0, [])).2) (by decide)) (fun L' p' w' j hj B σ H' S Q z s' H0 C cl fp => ?_) (fun L' p' w' j hj hqj s' H' C' cl fp => ?_) fun gp hgp => ?_
    · rw [List.length_map] at hj
      rw [map_getD (d := (0, [])) hj]
      rfl
    · rw [List.length_map] at hj
      exact Et.go S (et_is (k' := decide (wcalls (L.getD j (0, [])).2 = m)) (et_eqI (ed_callR (ds := [wayD (L.getD j (0, [])).2]) ((d__law_calls T).up (by decide)) hr (ea_cons (ed_v 7) ea_nil) ⟨_, rfl, hway _ (getD_mem hj), rfl⟩) (ed_v 8)) (decide_eq_decide.mpr (by omega))) z
    · rw [List.length_map] at hj
      exact ed_tup (ds := [.int (L.getD j (0, [])).1, wayD (L.getD j (0, [])).2]) (ea_cons (ed_v 5) (ea_cons (ed_v 7) ea_nil))
    rw [List.length_map, kept_list (f := fun q => Lo.d (headD q)) (g := fun q => decide (wcalls q.2 = m)), show (L.filter fun q => decide (wcalls q.2 = m)).map (fun q => Lo.d (headD q)) = ((L.filter fun q => decide (wcalls q.2 = m)).map headD).map .d from by rw [List.map_map]; rfl]
    refine go_freeze (ds := (L.filter fun q => decide (wcalls q.2 = m)).map headD) 0 9 hgp ?_ rfl
    have few_ne : (L.filter fun q => decide (wcalls q.2 = m)) ≠ [] := fun e => by
      obtain ⟨q, h1, h2⟩ := List.mem_map.mp hm1
      have : q ∈ L.filter fun q => decide (wcalls q.2 = m) := List.mem_filter.mpr ⟨h1, decide_eq_true h2⟩
      rw [e] at this; cases this
    refine go_retX (P := fun M' lo => M' = [(p, .pot)] ∧ ∃ q ∈ cands Γ l deep, lo = .d (headD q)) (ex_call ((d__law_pick T).up (by decide)) hr (ea_cons (ed_v 0) (ea_cons (ed_if (k := decide (0 < deep)) (l := .d (.list ((if 0 < deep then L else L.filter fun q => decide (wcalls q.2 = m)).map headD))) (et_gt (ed_v 3) ed_int) (fun e => ?_) (fun e => ?_)) ea_nil)).ac ?_) (hq.imp fun M' l h => h)
    · rw [if_pos (of_decide_eq_true e)]; exact ed_v 4
    · rw [if_neg (of_decide_eq_false e)]; exact ed_v 9
    · rintro M1 ls ⟨rfl, rfl⟩
      refine ⟨[(p, .pot)], [], _, List.Perm.refl _, ⟨p, _, rfl, rfl, ?_, ?_, rfl⟩, fun M' lo h => ?_⟩
      · intro e
        have e := List.map_eq_nil_iff.mp e
        split at e
        · exact hne e
        · exact few_ne e
      · rw [List.length_map]
        split
        · omega
        · have := List.length_filter_le (fun q : Nat × List Wy => decide (wcalls q.2 = m)) L
          omega
      · rw [List.append_nil]
        obtain ⟨rfl, d, hd', rfl⟩ := h
        obtain ⟨q, hq1, rfl⟩ := List.mem_map.mp hd'
        refine ⟨rfl, q, ?_, rfl⟩
        unfold cands
        rw [hL]
        split at hq1
        · rename_i h0
          exact List.mem_filter.mpr ⟨hq1, by unfold isCand; rw [decide_eq_true h0]; rfl⟩
        · rename_i h0
          obtain ⟨g1, g2⟩ := List.mem_filter.mp hq1
          refine List.mem_filter.mpr ⟨g1, ?_⟩
          unfold isCand
          rw [Bool.or_eq_true]
          right
          rw [List.all_eq_true]
          intro z hz'
          have := hm2 _ (List.mem_map.mpr ⟨z, hz', rfl⟩)
          have := of_decide_eq_true g2
          exact decide_eq_true (by omega)
end
end K32

set_option maxRecDepth 100000
set_option maxHeartbeats 4000000
namespace K32
open PySem L2
section
variable {X : Cx} {O : Og} {M : Owns} {ρ : List Lo} {a b e : Expr} {es : List Expr} {pos p1 : Pos} {j kt k : Nat} {x y : Kd} {p : Addr}
theorem ev_tup {x1} {Ψ : List Lo → Prop} (h : Eva X O M ρ es Ψ) (hz : ∀ ls, Ψ ls → ∃ ds : List PyData, ls = ds.map .d ∧ ds.length ≤ 100000) : Ev X O M ρ (.Tuple es x1 pos) (fun l => ∃ ds : List PyData, Ψ (ds.map .d) ∧ l = .d (.tuple ds)) := fun B σ H S Q q => wE_of (pe_tup pa_w) (h B σ H S _ fun vs ls B1 H1 f1 e1 S1 r1 => by
  obtain ⟨ds, rfl, hd⟩ := hz ls f1
  have z := Los.da r1
  refine ⟨size_line (by rw [z.length]; exact hd), fun p hp => ?_⟩
  have hB : B1 p = none := by
    cases e : B1 p with
    | none => rfl
    | some u => rw [S1.bh _ _ e] at hp; cases hp
  have hb : Same B1 (upd B1 p (.tup vs)) := fun b u k => by rw [upd_ne (ne_of_none k hB)]; exact k
  exact q _ _ _ _ ⟨ds, f1, rfl⟩ (e1.trans hb) (S1.newD hp) (.tup (SqT.of upd_same) (z.mono hb)))
theorem Ea.eva {ls : List Lo} (h : Ea X O M ρ es ls) : Eva X O M ρ es (fun r => r = ls) := fun B σ H S Q q => h B σ H S Q fun vs B1 H1 e1 S1 r => q vs ls B1 H1 rfl e1 S1 r
theorem ed_tr {t : Tr} (hn : Ed X O M ρ a (.d t.node.enc)) (hp : Ed X O M ρ b (.d (.list (t.parts.map Tr.enc)))) (h0 : starEach [a, b] X.env = (false, eval a X.env) :: starEach [b] X.env := by rfl) (h1 : starEach [b] X.env = (false, eval b X.env) :: starEach [] X.env := by rfl) : Ed X O M ρ (.Tuple [a, b] kt pos) (.d t.enc) := by
  rw [t.enc_eq]
  exact ed_tup (ds := [t.node.enc, .list (t.parts.map Tr.enc)]) (ea_cons hn (ea_cons hp ea_nil h1) h0)
/-- a draw -/
theorem ev_draw {n m : Nat} (F : Def X.prog X.w X.K X.mg X.base CX0 "_law_draw" m ["_law_pot_here", "_law_sides"] (spO X.K R_draw)) (hr : Room m X.A) (ha : Ed X O [(p, .pot)] ρ a (.v (.ref p))) (hb : Ed X O [(p, .pot)] ρ b (.d (.int n))) (h1 : 1 ≤ n) (h2 : n ≤ 10000) (hg : Gl X "_law_draw" := by rfl)
    (he : starEach [a, b] X.env = (false, eval a X.env) :: starEach [b] X.env := by rfl) (he2 : starEach [b] X.env = (false, eval b X.env) :: starEach [] X.env := by rfl) (hpl : (backTo pos (starEach [b] X.env)).any (·.1) = false := by rfl) :
    Ev X O [(p, .pot)] ρ (.Call (.Name "_law_draw" p1) [a, b] [] pos) (fun l => ∃ i : Nat, i < n ∧ l = .d (.int i)) :=
  Ex.ev (P := fun M' l => M' = [(p, .pot)] ∧ ∃ i : Nat, i < n ∧ l = .d (.int i)) (ex_call F hr (ea_cons ha (ea_cons hb ea_nil he2) he).ac (fun M1 ls h => by
    obtain ⟨rfl, rfl⟩ := h
    refine ⟨[(p, .pot)], [], _, List.Perm.refl _, ⟨p, n, rfl, rfl, h1, h2, rfl⟩, fun M' l h => ?_⟩
    rw [List.append_nil]
    exact h) hg (by decide) he hpl) fun M' l h => h
end
section
variable {P : Program} {w : World} {K : PySem.W.Frag} {mg : Str → Option Value} {base : Heap}
def R_laround : Owns → List Lo → Post → Prop := fun M ls Po => ∃ (p : Addr) (f : Tr) (k : Kd), M = [(p, .pot)] ∧ ls = [.v (.ref p), .d f.enc, .d k.enc] ∧ f.size ≤ 100 ∧ Po = fun M' l => M' = [(p, .pot)] ∧ ∃ f', Arnd k f f' ∧ l = .d f'.enc
theorem enc1 (n : Nd) (s : Tr) (t : Tr) (h : t.enc = .tuple [n.enc, .list [s.enc]]) : Lo.d (.tuple [n.enc, .list [s.enc]]) = .d t.enc := by rw [h]
theorem d__law_around (T : Tx w K mg) : Def P w K mg base CX0 "_law_around" 103 ["_law_pot_here", "_law_tree_here", "_law_kind_here"] (spO K R_laround) := by
  refine def_O (f__law_around T) (g__law_around T) sc__law_around (fun _ _ _ _ _ _ us hl => match us, hl with | [_, _, _], _ => rfl) (fun M ls Po h => by obtain ⟨p, f, k, rfl, rfl, hz, rfl⟩ := h; rfl) fun cdv A outer s H E hr M ls Po h O D hD hq => ?_
  obtain ⟨p, f, k, rfl, rfl, hz, rfl⟩ := h
  have hdl := deep_le f
  refine go_par2 3 4 (P := fun M' ls => M' = [(p, .pot)] ∧ ∃ i : Nat, i < 15 ∧ ls = [.d (.int i), .d Kd.cnt.enc]) sc__law_around.nd ?_ ?_
  · refine fun B σ H S Q q => (ac_v (ev_draw (n := 15) ((d__law_draw T).up (by decide)) hr (ed_v 0) ed_int (by decide) (by decide)) (ac_d (ed_tup (ds := [.str "count"]) (ea_cons ed_str ea_nil)) ac_nil)) B σ H S Q fun vs ls M' B' H' h => q vs ls M' B' H' ?_
    obtain ⟨l1, r1, rfl, ⟨i, hi, rfl⟩, r2, rfl, rfl, rfl⟩ := h
    exact ⟨rfl, i, hi, rfl⟩
  rintro M' ls ⟨rfl, i, hi, rfl⟩
  refine ⟨_, _, rfl, ?_⟩
  refine go_par2 5 6 (P := fun M' ls => M' = [(p, .pot)] ∧ ∃ n : Nat, n < 3 ∧ ls = [.d (Tr.name 0).enc, .d (Tr.told n).enc]) sc__law_around.nd ?_ ?_
  · refine fun B σ H S Q q => (ac_d (l := .d (Tr.name 0).enc) (ed_tup (ds := [(Nd.name 0).enc, .list []]) (ea_cons (ed_tup (ds := [.str "name", .int (0 : Nat)]) (ea_cons ed_str (ea_cons ed_int ea_nil))) (ea_cons (ed_lst (ds := []) ea_nil) ea_nil)))
      (ac_v (Φ := fun l => ∃ n : Nat, n < 3 ∧ l = .d (Tr.told n).enc) (Ev.mono (ev_tup (Ψ := fun ls => ∃ n : Nat, n < 3 ∧ ls = [.d (Nd.told n).enc, .d (.list [])]) (fun B σ H S Q q => (eva_cons (Φ := fun l => ∃ n : Nat, n < 3 ∧ l = .d (Nd.told n).enc) (Ev.mono (ev_tup (Ψ := fun ls => ∃ n : Nat, n < 3 ∧ ls = [.d (.str "told"), .d (.int n)]) (fun B σ H S Q q => (eva_cons (Ed.ev ed_str (Φ := fun l => l = .d (.str "told")) rfl) (eva_cons (ev_draw (n := 3) ((d__law_draw T).up (by decide)) hr (ed_v 0) ed_int (by decide) (by decide)) eva_nil)) B σ H S Q fun vs ls B' H' h => q vs ls B' H' ?_) ?_) ?_) (eva_cons (Ed.ev (ed_lst (ds := []) ea_nil) (Φ := fun l => l = .d (.list [])) rfl) eva_nil)) B σ H S Q fun vs ls B' H' h => q vs ls B' H' ?_) ?_) ?_) ac_nil)) B σ H S Q fun vs ls M' B' H' h => q vs ls M' B' H' ?_
    · obtain ⟨_, _, rfl, rfl, l2, r, rfl, ⟨n, hn, rfl⟩, rfl⟩ := h
      exact ⟨n, hn, rfl⟩
    · rintro ls ⟨n, hn, rfl⟩
      exact ⟨[.str "told", .int n], rfl, by simp⟩
    · rintro l ⟨ds, ⟨n, hn, e⟩, rfl⟩
      refine ⟨n, hn, ?_⟩
      have : ds = [.str "told", .int n] := by
        match ds, e with
        | [a, b], e => simp at e; obtain ⟨rfl, rfl⟩ := e; rfl
      rw [this]; rfl
    · obtain ⟨l1, r, rfl, ⟨n, hn, rfl⟩, l2, r2, rfl, rfl, rfl⟩ := h
      exact ⟨n, hn, rfl⟩
    · rintro ls ⟨n, hn, rfl⟩
      exact ⟨[(Nd.told n).enc, .list []], rfl, by simp⟩
    · rintro l ⟨ds, ⟨n, hn, e⟩, rfl⟩
      refine ⟨n, hn, ?_⟩
      have : ds = [(Nd.told n).enc, .list []] := by
        match ds, e with
        | [a, b], e => simp at e; obtain ⟨rfl, rfl⟩ := e; rfl
      rw [this]; rfl
    · obtain ⟨r, rfl, l2, r2, rfl, ⟨n, hn, rfl⟩, rfl, rfl⟩ := h
      exact ⟨rfl, n, hn, rfl⟩
  rintro M' ls ⟨rfl, n, hn, rfl⟩
  refine ⟨_, _, rfl, ?_⟩
  have ret : ∀ {X : Cx} {e : Expr} {pos : Pos} {rest : List Stmt} {ρ : List Lo} {D' : Ends} {f' : Tr}, X.K = K → Arnd k f f' → Ed X O [(p, .pot)] ρ e (.d f'.enc) → RetO X.K O D' (fun M' l => M' = [(p, .pot)] ∧ ∃ f', Arnd k f f' ∧ l = .d f'.enc) → Go X O [(p, .pot)] ρ D' (.Return (some e) pos :: rest) := fun hK ha he hq => go_retX he.ex (hq.imp fun M' l h => by obtain ⟨rfl, rfl⟩ := h; exact ⟨rfl, _, ha, rfl⟩)
  have hsz : (encs f.flat).length = f.size := by rw [encs_len, Tr.flat_len]
  refine go_if (k := decide (20 < f.size)) (et_is (et_gt (ed_lenL (b_len T) (ed_callR (ds := [f.enc]) ((d_lflat T 100).up (by decide)) hr (ea_cons (ed_v 1) ea_nil) ⟨f, rfl, by omega, by omega, rfl⟩)) ed_int) (decide_eq_decide.mpr (by rw [hsz]; omega))) (fun e => ret rfl .same (ed_v 1) hq) (fun e => go_thn ?_)
  have h20 : f.size ≤ 20 := by have := of_decide_eq_false e; omega
  refine go_if (k := decide ((i : Int) = 0)) (et_eqI (ed_v 3) ed_int) (fun e => ret rfl (.d0 h20) (ed_tr (ed_tup (ds := [.str "call"]) (ea_cons ed_str ea_nil)) (ed_lst (ds := [(Tr.fn k (.name 0)).enc, f.enc]) (ea_cons (ed_tr (ed_tup (ds := [.str "fun", k.enc]) (ea_cons ed_str (ea_cons (ed_v 2) ea_nil))) (ed_lst (ds := [(Tr.name 0).enc]) (ea_cons (ed_v 5) ea_nil))) (ea_cons (ed_v 1) ea_nil)))) hq) (fun e => go_thn ?_)
  refine go_if (k := decide ((i : Int) = 1)) (et_eqI (ed_v 3) ed_int) (fun e => ret rfl (.d1 n h20 hn) (ed_tr (ed_tup (ds := [.str "call"]) (ea_cons ed_str ea_nil)) (ed_lst (ds := [(Tr.fn .cnt (Tr.lift 1 0 f)).enc, (Tr.told n).enc]) (ea_cons (ed_tr (ed_tup (ds := [.str "fun", Kd.cnt.enc]) (ea_cons ed_str (ea_cons (ed_v 4) ea_nil))) (ed_lst (ds := [(Tr.lift 1 0 f).enc]) (ea_cons (ed_callR (ds := [f.enc, .int (1 : Nat), .int (0 : Nat)]) ((d_llift T 20).up (by decide)) hr (ea_cons (ed_v 1) (ea_cons ed_int (ea_cons ed_int ea_nil))) ⟨f, 1, 0, rfl, by omega, rfl⟩) ea_nil))) (ea_cons (ed_v 6) ea_nil)))) hq) (fun e => go_thn ?_)
  refine go_if (k := decide ((i : Int) = 2)) (et_eqI (ed_v 3) ed_int) (fun e => ret rfl (.d2 n h20 hn) (ed_tr (ed_tup (ds := [.str "second"]) (ea_cons ed_str ea_nil)) (ed_lst (ds := [(Tr.both (.told n) f).enc]) (ea_cons (ed_tr (ed_tup (ds := [.str "both"]) (ea_cons ed_str ea_nil)) (ed_lst (ds := [(Tr.told n).enc, f.enc]) (ea_cons (ed_v 6) (ea_cons (ed_v 1) ea_nil)))) ea_nil))) hq) (fun e => go_thn ?_)
  refine go_if (k := decide ((i : Int) = 3)) (et_eqI (ed_v 3) ed_int) (fun e => ret rfl (.d3 h20) (ed_tr (ed_tup (ds := [.str "let"]) (ea_cons ed_str ea_nil)) (ed_lst (ds := [f.enc, (Tr.name 0).enc]) (ea_cons (ed_v 1) (ea_cons (ed_v 5) ea_nil)))) hq) (fun e => go_thn ?_)
  have hlen12 : ∀ {X : Cx} {ρ : List Lo}, True := fun {_ _} => trivial
  refine go_if (k := decide ((i : Int) = 4) && (decide (f.size < 12) && decide ((n : Int) = 1))) (et_w (ew_and (et_eqI (ed_v 3) ed_int) fun _ => ew_and (et_is (et_lt (ed_lenL (b_len T) (ed_callR (ds := [f.enc]) ((d_lflat T 100).up (by decide)) hr (ea_cons (ed_v 1) ea_nil) ⟨f, rfl, by omega, by omega, rfl⟩)) ed_int) (decide_eq_decide.mpr (by rw [hsz]; omega))) fun _ => ew_and1 (et_eqI (ed_ixT (ds := [.str "told", .int n]) (ed_t0 (t := .told n) (ed_v 6)) ed_int) ed_int))) (fun e => ?_) (fun e => go_thn ?_)
  · have h12 : f.size < 12 := by simp at e; omega
    exact ret rfl (.d4 h12) (ed_tr (ed_tup (ds := [.str "which"]) (ea_cons ed_str ea_nil)) (ed_lst (ds := [(Tr.right .cnt f).enc, (Tr.lift 1 0 f).enc, (Tr.name 0).enc]) (ea_cons (ed_tr (ed_tup (ds := [.str "right", Kd.cnt.enc]) (ea_cons ed_str (ea_cons (ed_v 4) ea_nil))) (ed_lst (ds := [f.enc]) (ea_cons (ed_v 1) ea_nil))) (ea_cons (ed_callR (ds := [f.enc, .int (1 : Nat), .int (0 : Nat)]) ((d_llift T 20).up (by decide)) hr (ea_cons (ed_v 1) (ea_cons ed_int (ea_cons ed_int ea_nil))) ⟨f, 1, 0, rfl, by omega, rfl⟩) (ea_cons (ed_v 5) ea_nil))))) hq
  refine go_if (k := decide ((i : Int) = 4) && decide (f.size < 12)) (et_and (et_eqI (ed_v 3) ed_int) fun _ => et_is (et_lt (ed_lenL (b_len T) (ed_callR (ds := [f.enc]) ((d_lflat T 100).up (by decide)) hr (ea_cons (ed_v 1) ea_nil) ⟨f, rfl, by omega, by omega, rfl⟩)) ed_int) (decide_eq_decide.mpr (by rw [hsz]; omega))) (fun e => ?_) (fun e => go_thn ?_)
  · have h12 : f.size < 12 := by simp at e; omega
    exact ret rfl (.d5 h12) (ed_tr (ed_tup (ds := [.str "which"]) (ea_cons ed_str ea_nil)) (ed_lst (ds := [(Tr.left .cnt f).enc, (Tr.name 0).enc, (Tr.lift 1 0 f).enc]) (ea_cons (ed_tr (ed_tup (ds := [.str "left", Kd.cnt.enc]) (ea_cons ed_str (ea_cons (ed_v 4) ea_nil))) (ed_lst (ds := [f.enc]) (ea_cons (ed_v 1) ea_nil))) (ea_cons (ed_v 5) (ea_cons (ed_callR (ds := [f.enc, .int (1 : Nat), .int (0 : Nat)]) ((d_llift T 20).up (by decide)) hr (ea_cons (ed_v 1) (ea_cons ed_int (ea_cons ed_int ea_nil))) ⟨f, 1, 0, rfl, by omega, rfl⟩) ea_nil))))) hq
  refine go_if (k := decide ((i : Int) = 5)) (et_eqI (ed_v 3) ed_int) (fun e => ret rfl (.d6 n h20 hn) (ed_tr (ed_tup (ds := [.str "turns", k.enc]) (ea_cons ed_str (ea_cons (ed_v 2) ea_nil))) (ed_lst (ds := [(Tr.told (min 1 n)).enc, (Tr.name 0).enc, f.enc]) (ea_cons (ed_tr (ed_tup (ds := [.str "told", .int (min 1 n : Nat)]) (ea_cons ed_str (ea_cons (ed_is (ed_min2 rfl (b_min T) ed_int (ed_ixT (ds := [.str "told", .int n]) (ed_t0 (t := .told n) (ed_v 6)) ed_int)) (congrArg (fun z => Lo.d (.int z)) (by split <;> omega))) ea_nil))) (ed_lst (ds := []) ea_nil)) (ea_cons (ed_v 5) (ea_cons (ed_v 1) ea_nil))))) hq) (fun e => go_thn ?_)
  refine go_if (k := decide ((i : Int) = 6)) (et_eqI (ed_v 3) ed_int) (fun e => ret rfl (.d7 n h20 hn) (ed_tr (ed_tup (ds := [.str "let"]) (ea_cons ed_str ea_nil)) (ed_lst (ds := [(Tr.next (.told n)).enc, (Tr.lift 1 0 f).enc]) (ea_cons (ed_tr (ed_tup (ds := [.str "next"]) (ea_cons ed_str ea_nil)) (ed_lst (ds := [(Tr.told n).enc]) (ea_cons (ed_v 6) ea_nil))) (ea_cons (ed_callR (ds := [f.enc, .int (1 : Nat), .int (0 : Nat)]) ((d_llift T 20).up (by decide)) hr (ea_cons (ed_v 1) (ea_cons ed_int (ea_cons ed_int ea_nil))) ⟨f, 1, 0, rfl, by omega, rfl⟩) ea_nil)))) hq) (fun e => go_thn ?_)
  exact ret rfl .same (ed_v 1) hq
end
end K32

set_option maxRecDepth 100000
set_option maxHeartbeats 4000000
namespace K32
open PySem L2
def pairD (n f : Tr) : PyData := .tuple [n.enc, f.enc]
def EnvOk (Γ : List Kd) (f : Nat) : Prop := (∀ A ∈ Γ, A.signs ≤ 60) ∧ (∀ A ∈ Γ, A.deep ≤ 12) ∧ Γ.length + f ≤ 60
def R_lpair (f : Nat) : Owns → List Lo → Post → Prop := fun M ls Po => ∃ (p : Addr) (k : Kd) (Γ : List Kd) (deep : Int) (b : Nat), M = [(p, .pot)] ∧ ls = [.v (.ref p), .d k.enc, .d (envD Γ), .d (.int deep)] ∧ bP f k Γ deep = some b ∧ b ≤ 100 ∧ EnvOk Γ f ∧
  Po = fun M' l => M' = [(p, .pot)] ∧ ∃ n ff, PairR k Γ b n ff ∧ l = .d (pairD n ff)
def R_lrow (f : Nat) : Owns → List Lo → Post → Prop := fun M ls Po => ∃ (p : Addr) (i : Nat) (Γ : List Kd) (deep : Int) (b : Nat), M = [(p, .pot)] ∧ ls = [.v (.ref p), .d (Kd.let_ i).enc, .d (envD Γ), .d (.int deep)] ∧ headsF 0 Γ (.let_ i) ≠ [] ∧ (∀ q ∈ cands Γ (.let_ i) deep, ∃ x, bWay f Γ deep (some 1) q.2 = some x ∧ x ≤ b) ∧ b ≤ 100 ∧ EnvOk Γ f ∧
  Po = fun M' l => M' = [(p, .pot)] ∧ ∃ n ff, PairR (.let_ i) Γ b n ff ∧ l = .d (pairD n ff)
theorem EnvOk.cons {A : Kd} {Γ : List Kd} {f : Nat} (h : EnvOk Γ (f + 1)) (h1 : A.signs ≤ 60) (h2 : A.deep ≤ 12) : EnvOk (A :: Γ) f := ⟨fun B hB => by
  rcases List.mem_cons.mp hB with rfl | hB
  · exact h1
  · exact h.1 B hB, fun B hB => by
  rcases List.mem_cons.mp hB with rfl | hB
  · exact h2
  · exact h.2.1 B hB, by have := h.2.2; simp only [List.length_cons]; omega⟩
theorem EnvOk.up {Γ : List Kd} {f : Nat} (h : EnvOk Γ (f + 1)) : EnvOk Γ f := ⟨h.1, h.2.1, by have := h.2.2; omega⟩
theorem small_fn {a c : Kd} (h : small (.fn a c) = true) : a.signs ≤ 60 ∧ a.deep ≤ 12 := by
  unfold small at h
  simp only [Bool.and_eq_true, decide_eq_true_eq, Kd.signs, Kd.deep] at h
  obtain ⟨⟨_, h1⟩, h2⟩ := h
  have h1 : 1 + a.signs + c.signs ≤ 28 := by first | exact h1 | exact of_decide_eq_true h1
  have h2 : 1 + max a.deep c.deep ≤ 10 := by first | exact h2 | exact of_decide_eq_true h2
  omega
theorem wyTo_nil {k l : Kd} (h : wyTo k [] l) : k = l := by cases k <;> exact h
theorem bWay_ge {f : Nat} {Γ : List Kd} {deep : Int} : ∀ (w : List Wy) {m x : Nat}, bWay f Γ deep (some m) w = some x → m ≤ x
  | [], m, x, h => by cases h; exact Nat.le_refl _
  | st :: w, m, x, h => by
    have h : bWay f Γ deep (bStep f Γ deep (some m) st) w = some x := h
    cases e : bStep f Γ deep (some m) st with
    | none => rw [e, bWay_none] at h; cases h
    | some y =>
      rw [e] at h
      have h1 := bWay_ge w h
      cases st with
      | fst => cases e; omega
      | snd => cases e; omega
      | arg a =>
        obtain ⟨z, _, e2⟩ := omap (o := bP f a Γ (deep - 1)) (g := fun x => 1 + m + x) e
        omega
section
variable {X : Cx} {O : Og} {M : Owns} {ρ : List Lo} {a b c d e : Expr} {es : List Expr} {pos p1 : Pos} {j kt k : Nat} {x y : Kd} {p : Addr}
/-- two drawn trees -/
theorem ev_pairs {f m : Nat} {kk : Kd} {Γ : List Kd} {deep : Int} {bb : Nat} (F : Def X.prog X.w X.K X.mg X.base CX0 "_law_pair" m ["_law_pot_here", "_law_kind_here", "_law_env", "_law_deep"] (spO X.K (R_lpair f))) (hr : Room m X.A) (h1 : bP f kk Γ deep = some bb) (h2 : bb ≤ 100) (h3 : EnvOk Γ f)
    (ha : Ed X O [(p, .pot)] ρ a (.v (.ref p))) (hb : Ed X O [(p, .pot)] ρ b (.d kk.enc)) (hc : Ed X O [(p, .pot)] ρ c (.d (envD Γ))) (hd : Ed X O [(p, .pot)] ρ d (.d (.int deep))) (hg : Gl X "_law_pair" := by rfl)
    (he : starEach [a, b, c, d] X.env = (false, eval a X.env) :: starEach [b, c, d] X.env := by rfl) (he2 : starEach [b, c, d] X.env = (false, eval b X.env) :: starEach [c, d] X.env := by rfl) (he3 : starEach [c, d] X.env = (false, eval c X.env) :: starEach [d] X.env := by rfl) (he4 : starEach [d] X.env = (false, eval d X.env) :: starEach [] X.env := by rfl) (hpl : (backTo pos (starEach [b, c, d] X.env)).any (·.1) = false := by rfl) :
    Ev X O [(p, .pot)] ρ (.Call (.Name "_law_pair" p1) [a, b, c, d] [] pos) (fun l => ∃ n ff, PairR kk Γ bb n ff ∧ l = .d (pairD n ff)) :=
  Ex.ev (P := fun M' l => M' = [(p, .pot)] ∧ ∃ n ff, PairR kk Γ bb n ff ∧ l = .d (pairD n ff)) (ex_call F hr (ea_cons ha (ea_cons hb (ea_cons hc (ea_cons hd ea_nil he4) he3) he2) he).ac (fun M1 ls h => by
    obtain ⟨rfl, rfl⟩ := h
    refine ⟨[(p, .pot)], [], _, List.Perm.refl _, ⟨p, kk, Γ, deep, bb, rfl, rfl, h1, h2, h3, rfl⟩, fun M' l h => ?_⟩
    rw [List.append_nil]
    exact h) hg (by decide) he hpl) fun M' l h => h
/-- two at once, both data -/
theorem ed_two {d1 d2 : PyData} (ha : Ed X O M ρ a (.d d1)) (hb : Ed X O M ρ b (.d d2)) (h0 : starEach [a, b] X.env = (false, eval a X.env) :: starEach [b] X.env := by rfl) (h1 : starEach [b] X.env = (false, eval b X.env) :: starEach [] X.env := by rfl) : Ed X O M ρ (.Tuple [a, b] kt pos) (.d (.tuple [d1, d2])) :=
  ed_tup (ds := [d1, d2]) (ea_cons ha (ea_cons hb ea_nil h1) h0)
theorem ed_l1 {s : Tr} (ha : Ed X O M ρ a (.d s.enc)) (h1 : starEach [a] X.env = (false, eval a X.env) :: starEach [] X.env := by rfl) : Ed X O M ρ (.List [a] pos) (.d (.list ([s].map Tr.enc))) := ed_lst (ds := [s.enc]) (ea_cons ha ea_nil h1)
theorem ed_l2 {s t : Tr} (ha : Ed X O M ρ a (.d s.enc)) (hb : Ed X O M ρ b (.d t.enc)) (h0 : starEach [a, b] X.env = (false, eval a X.env) :: starEach [b] X.env := by rfl) (h1 : starEach [b] X.env = (false, eval b X.env) :: starEach [] X.env := by rfl) : Ed X O M ρ (.List [a, b] pos) (.d (.list ([s, t].map Tr.enc))) := ed_lst (ds := [s.enc, t.enc]) (ea_cons ha (ea_cons hb ea_nil h1) h0)
theorem ac_two {l1 l2 : Lo} (ha : Ed X O M ρ a l1) (hb : Ed X O M ρ b l2) (h0 : starEach [a, b] X.env = (false, eval a X.env) :: starEach [b] X.env := by rfl) (h1 : starEach [b] X.env = (false, eval b X.env) :: starEach [] X.env := by rfl) : Ac X O M ρ [a, b] (fun M' ls => M' = M ∧ ls = [l1, l2]) := Ea.ac (ea_cons ha (ea_cons hb ea_nil h1) h0)
end
section
variable {P : Program} {w : World} {K : PySem.W.Frag} {mg : Str → Option Value} {base : Heap}
theorem d_lrow (T : Tx w K mg) {f : Nat} (F : Def P w K mg base CX0 "_law_pair" (105 + 2 * f) ["_law_pot_here", "_law_kind_here", "_law_env", "_law_deep"] (spO K (R_lpair f))) : Def P w K mg base CX0 "_law_row" (106 + 2 * f) ["_law_pot_here", "_law_kind_here", "_law_env", "_law_deep"] (spO K (R_lrow f)) := by
  rw [show 106 + 2 * f = (105 + 2 * f) + 1 by omega]
  refine def_O (f__law_row T) (g__law_row T) sc__law_row (fun _ _ _ _ _ _ us hl => match us, hl with | [_, _, _, _], _ => rfl) (fun M ls Po h => by obtain ⟨p, i, Γ, deep, b, rfl, rfl, _⟩ := h; rfl) fun cdv A outer s H E hr M ls Po h O D hD hq => ?_
  obtain ⟨p, i, Γ, deep, b, rfl, rfl, hne, hway, hb, hΓ, rfl⟩ := h
  refine go_tupV (Φ := fun l => ∃ q ∈ cands Γ (.let_ i) deep, l = .d (headD q)) (Ex.ev (P := fun M' l => M' = [(p, .pot)] ∧ ∃ q ∈ cands Γ (.let_ i) deep, l = .d (headD q)) (ex_call ((d__law_head T).up (by omega)) hr (ea_cons (ed_v 0) (ea_cons (ed_v 1) (ea_cons (ed_v 2) (ea_cons (ed_v 3) ea_nil)))).ac ?_) fun M' l h => h)
    (pg_tup rfl (pgs_cons (pg_name (i := 4) sc__law_row.nd rfl (.inl rfl)) (pgs_cons (pg_name (i := 5) sc__law_row.nd rfl (.inl rfl)) pgs_nil))) ?_
  · rintro M1 ls ⟨rfl, rfl⟩
    refine ⟨[(p, .pot)], [], _, List.Perm.refl _, ⟨p, .let_ i, Γ, deep, rfl, rfl, by simp only [Kd.deep]; omega, hΓ.1, hΓ.2.1, by have := hΓ.2.2; omega, hne, rfl⟩, fun M' l h => ?_⟩
    rw [List.append_nil]
    exact h
  rintro l ⟨q, hqc, rfl⟩
  obtain ⟨j, v⟩ := q
  refine ⟨_, _, rfl, tg_two 4 5, ?_⟩
  obtain ⟨x, hx1, hx2⟩ := hway _ hqc
  obtain ⟨A, _, hA, hw⟩ := heads_to (List.mem_filter.mp hqc).1
  rw [Nat.sub_zero] at hA
  have hto := ways_to A _ _ hw
  have hvl : v.length ≤ 60 := Nat.le_trans (way_len A _ v hw) (hΓ.1 A (List.mem_of_getElem? hA))
  refine go_par2 6 7 sc__law_row.nd (ac_two (l1 := .d (Tr.name j).enc) (l2 := .d (Tr.name j).enc) (ed_tr (ed_tup (ds := [.str "name", .int j]) (ea_cons ed_str (ea_cons (ed_v 4) ea_nil))) (ed_lst (ds := []) ea_nil)) (ed_tr (ed_tup (ds := [.str "name", .int j]) (ea_cons ed_str (ea_cons (ed_v 4) ea_nil))) (ed_lst (ds := []) ea_nil))) ?_
  rintro M' ls ⟨rfl, rfl⟩
  refine ⟨_, _, rfl, ?_⟩
  refine go_forX (fun s M ρ => M = [(p, .pot)] ∧ ∃ n ff B m, ChR B Γ m n ff ∧ wyTo B (v.drop s) (.let_ i) ∧ bWay f Γ deep (some m) (v.drop s) = some x ∧ ρ = [.v (.ref p), .d (Kd.let_ i).enc, .d (envD Γ), .d (.int deep), .d (.int j), .d (wayD v), .d n.enc, .d ff.enc, .no, .no, .no])
    (it_list (ed_v 5)) (pg_name (i := 8) sc__law_row.nd rfl (.inl rfl)) ⟨rfl, .name j, .name j, A, 1, ChR.name hA, hto, hx1, rfl⟩ ?_ ?_
  · rintro L s hs Mi ρi ⟨rfl, n, ff, B, m, hc, ht, hm, rfl⟩
    refine ⟨_, tg_name 8, ?_⟩
    rw [List.length_map] at hs
    obtain ⟨st, hst⟩ := get_lt hs
    have e0 : (v.map wyD).getD s .none = wyD st := by rw [List.getD_eq_getElem?_getD, List.getElem?_map, hst]; rfl
    rw [e0]
    rw [drop_cons hst] at ht hm
    cases st with
    | fst =>
      cases B with
      | pr B1 B2 =>
        refine go_if (k := true) (et_b (et_v (ed_isn "str" "str" true (b_isinstance T) (ed_v 8) (b_str T))) rfl) (fun _ => ?_) (fun e => by cases e)
        refine go_par2 6 7 sc__law_row.nd (ac_two (l1 := .d (Tr.first n).enc) (l2 := .d (Tr.first ff).enc) (ed_tr (ed_tup (ds := [.str "first"]) (ea_cons (ed_v 8) ea_nil)) (ed_l1 (ed_v 6))) (ed_tr (ed_tup (ds := [.str "first"]) (ea_cons (ed_v 8) ea_nil)) (ed_l1 (ed_v 7)))) ?_
        rintro M' ls ⟨rfl, rfl⟩
        exact ⟨_, _, rfl, go_thn (go_turnXW ⟨rfl, .first n, .first ff, B1, 1 + m, hc.first, ht, hm, rfl⟩)⟩
      | _ => exact ht.elim
    | snd =>
      cases B with
      | pr B1 B2 =>
        refine go_if (k := true) (et_b (et_v (ed_isn "str" "str" true (b_isinstance T) (ed_v 8) (b_str T))) rfl) (fun _ => ?_) (fun e => by cases e)
        refine go_par2 6 7 sc__law_row.nd (ac_two (l1 := .d (Tr.second n).enc) (l2 := .d (Tr.second ff).enc) (ed_tr (ed_tup (ds := [.str "second"]) (ea_cons (ed_v 8) ea_nil)) (ed_l1 (ed_v 6))) (ed_tr (ed_tup (ds := [.str "second"]) (ea_cons (ed_v 8) ea_nil)) (ed_l1 (ed_v 7)))) ?_
        rintro M' ls ⟨rfl, rfl⟩
        exact ⟨_, _, rfl, go_thn (go_turnXW ⟨rfl, .second n, .second ff, B2, 1 + m, hc.second, ht, hm, rfl⟩)⟩
      | _ => exact ht.elim
    | arg a' =>
      cases B with
      | fn B1 B2 =>
        obtain ⟨rfl, ht⟩ := ht
        have hm : bWay f Γ deep (bStep f Γ deep (some m) (.arg a')) (v.drop (s + 1)) = some x := hm
        cases ebb : bP f a' Γ (deep - 1) with
        | none =>
          have e1 : bStep f Γ deep (some m) (.arg a') = none := by unfold bStep; simp only [Option.bind]; rw [ebb]; rfl
          rw [e1, bWay_none] at hm
          cases hm
        | some bb =>
          have e1 : bStep f Γ deep (some m) (.arg a') = some (1 + m + bb) := by unfold bStep; simp only [Option.bind]; rw [ebb]; rfl
          rw [e1] at hm
          have hge := bWay_ge _ hm
          refine go_if (k := false) ?_ (fun e => by cases e) (fun _ => ?_)
          · cases a' <;> exact et_b (et_v (ed_isn "str" "tuple" false (b_isinstance T) (ed_v 8) (b_str T))) rfl
          refine go_tupV (ev_pairs F hr ebb (by omega) hΓ (ed_v 0) (ed_v 8) (ed_v 2) (ed_sub (ed_v 3) ed_int)) (pg_tup rfl (pgs_cons (pg_name (i := 9) sc__law_row.nd rfl (.inl rfl)) (pgs_cons (pg_name (i := 10) sc__law_row.nd rfl (.inl rfl)) pgs_nil))) ?_
          rintro l ⟨y, z, hyz, rfl⟩
          refine ⟨_, _, rfl, tg_two 9 10, ?_⟩
          refine go_par2 6 7 sc__law_row.nd (ac_two (l1 := .d (Tr.call n y).enc) (l2 := .d (Tr.call ff z).enc) (ed_tr (ed_tup (ds := [.str "call"]) (ea_cons ed_str ea_nil)) (ed_l2 (ed_v 6) (ed_v 9))) (ed_tr (ed_tup (ds := [.str "call"]) (ea_cons ed_str ea_nil)) (ed_l2 (ed_v 7) (ed_v 10)))) ?_
          rintro M' ls ⟨rfl, rfl⟩
          exact ⟨_, _, rfl, go_thn (go_turnXW ⟨rfl, .call n y, .call ff z, B2, 1 + m + bb, hc.call hyz, ht, hm, rfl⟩)⟩
      | _ => exact ht.elim
  · rintro Mi ρi ⟨rfl, n, ff, B, m, hc, ht, hm, rfl⟩
    rw [List.length_map, List.drop_length] at ht hm
    have e1 : B = .let_ i := wyTo_nil ht
    subst e1
    have e2 : m = x := Option.some.inj hm
    refine go_retX (Ed.ex (ed_two (ed_v 6) (ed_v 7))) (hq.imp fun M' l h => ?_)
    obtain ⟨rfl, rfl⟩ := h
    exact ⟨rfl, n, ff, hc.pair (by omega), rfl⟩
theorem d_lpair (T : Tx w K mg) : ∀ f, Def P w K mg base CX0 "_law_pair" (105 + 2 * f) ["_law_pot_here", "_law_kind_here", "_law_env", "_law_deep"] (spO K (R_lpair f)) := by
  intro f
  induction f with
  | zero =>
    refine def_O (f__law_pair T) (g__law_pair T) sc__law_pair (fun _ _ _ _ _ _ us hl => match us, hl with | [_, _, _, _], _ => rfl) (fun M ls Po h => by obtain ⟨p, k, Γ, deep, b, rfl, rfl, _⟩ := h; rfl) fun cdv A outer s H E hr M ls Po h O D hD hq => ?_
    obtain ⟨p, k, Γ, deep, b, _, _, h, _⟩ := h
    cases h
  | succ f ih =>
    have row := d_lrow T ih
    rw [show 105 + 2 * (f + 1) = (106 + 2 * f) + 1 by omega]
    refine def_O (f__law_pair T) (g__law_pair T) sc__law_pair (fun _ _ _ _ _ _ us hl => match us, hl with | [_, _, _, _], _ => rfl) (fun M ls Po h => by obtain ⟨p, k, Γ, deep, b, rfl, rfl, _⟩ := h; rfl) fun cdv A outer s H E hr M ls Po h O D hD hq => ?_
    obtain ⟨p, k, Γ, deep, b, rfl, rfl, hb, hb1, hΓ, rfl⟩ := h
    obtain ⟨hsm, hb25⟩ := bP_small hb
    have F : Def P w K mg base CX0 "_law_pair" (106 + 2 * f) ["_law_pot_here", "_law_kind_here", "_law_env", "_law_deep"] (spO K (R_lpair f)) := ih.up (by omega)
    have fin : ∀ (ρ : List Lo) (n ff : Tr), ρ[0]? = some (.v (.ref p)) → ρ[1]? = some (.d k.enc) → ρ[7]? = some (.d (pairD n ff)) → PairR k Γ b n ff → Go (cxQ P w K mg base "_law_pair" sL_pair N__law_pair (He.ga K "_law_pair") cdv A outer s H E) O [(p, .pot)] ρ D ((defBody sL_pair).drop 2) := fun ρ n ff r0 r1 r7 hp => by
      refine go_retX (Ev.ex (ev_tup (Ψ := fun ls => ∃ f', Arnd k ff f' ∧ ls = [.d n.enc, .d f'.enc]) (fun B σ H S Q q => (eva_cons (Ed.ev (ed_ixT (ds := [n.enc, ff.enc]) (ed_v 7 (hl := r7)) ed_int) (Φ := fun l => l = .d n.enc) rfl) (eva_cons (Ex.ev (P := fun M' l => M' = [(p, .pot)] ∧ ∃ f', Arnd k ff f' ∧ l = .d f'.enc) (Φ := fun l => ∃ f', Arnd k ff f' ∧ l = .d f'.enc) (ex_call ((d__law_around T).up (by omega)) hr (ea_cons (ed_v 0 (hl := r0)) (ea_cons (ed_ixT (ds := [n.enc, ff.enc]) (ed_v 7 (hl := r7)) ed_int) (ea_cons (ed_v 1 (hl := r1)) ea_nil))).ac ?_) fun M' l h => h) eva_nil)) B σ H S Q fun vs ls B' H' h => q vs ls B' H' ?_) ?_)) (hq.imp fun M' l h => ?_)
      · rintro M1 ls ⟨rfl, rfl⟩
        refine ⟨[(p, .pot)], [], _, List.Perm.refl _, ⟨p, ff, k, rfl, rfl, by have := hp.sf; omega, rfl⟩, fun M' l h => ?_⟩
        rw [List.append_nil]
        exact h
      · obtain ⟨l1, r, rfl, rfl, l2, r2, rfl, ⟨f', ha, rfl⟩, rfl⟩ := h
        exact ⟨f', ha, rfl⟩
      · rintro ls ⟨f', ha, rfl⟩
        exact ⟨[n.enc, f'.enc], rfl, by simp⟩
      · obtain ⟨rfl, ds, ⟨f', ha, e⟩, rfl⟩ := h
        refine ⟨rfl, n, f', hp.around ha hsm hb25, ?_⟩
        have : ds = [n.enc, f'.enc] := by
          match ds, e with
          | [a, b], e => simp at e; obtain ⟨rfl, rfl⟩ := e; rfl
        rw [this]; rfl
    refine go_asg 4 sc__law_pair.nd (ed_kword (ed_v 1)) ?_
    cases k with
    | fn a c =>
      obtain ⟨x, hx, hxb⟩ := bP_fn hb
      obtain ⟨a1, a2⟩ := small_fn hsm
      refine go_take (et_b (et_eqS (ed_v 4) ed_str) rfl) ?_
      refine go_tupV (ev_pairs F hr hx (by omega) (hΓ.cons a1 a2) (ed_v 0) (ed_ixT (ds := [.str "fun", a.enc, c.enc]) (ed_v 1) ed_int) (El.ed (el_cat (ds := [a.enc]) (fs := Γ.map Kd.enc) (ed_lst (ds := [a.enc]) (ea_cons (ed_ixT (ds := [.str "fun", a.enc, c.enc]) (ed_v 1) ed_int) ea_nil)) (ed_v 2) (by have := hΓ.2.2; simp only [List.length_map, List.length_cons, List.length_nil]; omega))) (ed_v 3)) (pg_tup rfl (pgs_cons (pg_name (i := 5) sc__law_pair.nd rfl (.inl rfl)) (pgs_cons (pg_name (i := 6) sc__law_pair.nd rfl (.inl rfl)) pgs_nil))) ?_
      rintro l ⟨n, ff, hp, rfl⟩
      refine ⟨_, _, rfl, tg_two 5 6, ?_⟩
      refine go_asg (l := .d (pairD (.fn a n) (.fn a ff))) 7 sc__law_pair.nd (ed_two (ed_tr (ed_tup (ds := [.str "fun", a.enc]) (ea_cons ed_str (ea_cons (ed_ixT (ds := [.str "fun", a.enc, c.enc]) (ed_v 1) ed_int) ea_nil))) (ed_l1 (ed_v 5))) (ed_tr (ed_tup (ds := [.str "fun", a.enc]) (ea_cons ed_str (ea_cons (ed_ixT (ds := [.str "fun", a.enc, c.enc]) (ed_v 1) ed_int) ea_nil))) (ed_l1 (ed_v 6)))) (go_thn ?_)
      exact fin _ _ _ rfl rfl rfl ((hp.fn hsm).mono hxb)
    | pr a c =>
      obtain ⟨x, y, hx, hy, hxy⟩ := bP_pr hb
      refine go_if (k := false) (et_b (et_eqS (ed_v 4) ed_str) rfl) (fun e => by cases e) (fun _ => ?_)
      refine go_take (et_b (et_eqS (ed_v 4) ed_str) rfl) ?_
      refine go_par2 8 9 (P := fun M' ls => M' = [(p, .pot)] ∧ ∃ n ff n' ff', PairR a Γ x n ff ∧ PairR c Γ y n' ff' ∧ ls = [.d (pairD n ff), .d (pairD n' ff')]) sc__law_pair.nd (fun B σ H S Q q => (ac_v (ev_pairs F hr hx (by omega) hΓ.up (ed_v 0) (ed_ixT (ds := [.str "pair", a.enc, c.enc]) (ed_v 1) ed_int) (ed_v 2) (ed_v 3)) (ac_v (ev_pairs F hr hy (by omega) hΓ.up (ed_v 0) (ed_ixT (ds := [.str "pair", a.enc, c.enc]) (ed_v 1) ed_int) (ed_v 2) (ed_v 3)) ac_nil)) B σ H S Q fun vs ls M' B' H' h => q vs ls M' B' H' ?_) ?_
      · obtain ⟨l1, r, rfl, ⟨n, ff, h1, rfl⟩, l2, r2, rfl, ⟨n', ff', h2, rfl⟩, rfl, rfl⟩ := h
        exact ⟨rfl, n, ff, n', ff', h1, h2, rfl⟩
      rintro M' ls ⟨rfl, n, ff, n', ff', h1, h2, rfl⟩
      refine ⟨_, _, rfl, ?_⟩
      refine go_asg (l := .d (pairD (.both n n') (.both ff ff'))) 7 sc__law_pair.nd (ed_two (ed_tr (ed_tup (ds := [.str "both"]) (ea_cons ed_str ea_nil)) (ed_l2 (ed_ixT (ds := [n.enc, ff.enc]) (ed_v 8) ed_int) (ed_ixT (ds := [n'.enc, ff'.enc]) (ed_v 9) ed_int))) (ed_tr (ed_tup (ds := [.str "both"]) (ea_cons ed_str ea_nil)) (ed_l2 (ed_ixT (ds := [n.enc, ff.enc]) (ed_v 8) ed_int) (ed_ixT (ds := [n'.enc, ff'.enc]) (ed_v 9) ed_int)))) (go_thn (go_thn ?_))
      exact fin _ _ _ rfl rfl rfl ((h1.both h2 hsm).mono hxy)
    | sm a c =>
      obtain ⟨x, y, hx, hy, hxb, hyb⟩ := bP_sm hb
      refine go_if (k := false) (et_b (et_eqS (ed_v 4) ed_str) rfl) (fun e => by cases e) (fun _ => ?_)
      refine go_if (k := false) (et_b (et_eqS (ed_v 4) ed_str) rfl) (fun e => by cases e) (fun _ => ?_)
      refine go_take (et_b (et_eqS (ed_v 4) ed_str) rfl) ?_
      refine go_asgV 10 sc__law_pair.nd (ev_draw (n := 2) ((d__law_draw T).up (by omega)) hr (ed_v 0) ed_int (by decide) (by decide)) ?_
      rintro l ⟨i, hi, rfl⟩
      have : i = 0 ∨ i = 1 := by omega
      rcases this with rfl | rfl
      · refine go_tupV (ev_pairs F hr hx (by omega) hΓ.up (ed_v 0) (ed_ixT (ds := [.str "sum", a.enc, c.enc]) (ed_v 1) (ed_add ed_int (ed_v 10))) (ed_v 2) (ed_v 3)) (pg_tup rfl (pgs_cons (pg_name (i := 5) sc__law_pair.nd rfl (.inl rfl)) (pgs_cons (pg_name (i := 6) sc__law_pair.nd rfl (.inl rfl)) pgs_nil))) ?_
        rintro l ⟨n, ff, hp, rfl⟩
        refine ⟨_, _, rfl, tg_two 5 6, ?_⟩
        refine go_asg (l := .d (Nd.left c).enc) 11 sc__law_pair.nd (ed_ifT (et_eqI (ed_v 10) ed_int) rfl (ed_tup (ds := [.str "left", c.enc]) (ea_cons ed_str (ea_cons (ed_ixT (ds := [.str "sum", a.enc, c.enc]) (ed_v 1) ed_int) ea_nil)))) ?_
        refine go_asg (l := .d (pairD (.left c n) (.left c ff))) 7 sc__law_pair.nd (ed_two (ed_tr (ed_v 11) (ed_l1 (ed_v 5))) (ed_tr (ed_v 11) (ed_l1 (ed_v 6)))) (go_thn (go_thn (go_thn ?_)))
        exact fin _ _ _ rfl rfl rfl ((hp.left hsm).mono hxb)
      · refine go_tupV (ev_pairs F hr hy (by omega) hΓ.up (ed_v 0) (ed_ixT (ds := [.str "sum", a.enc, c.enc]) (ed_v 1) (ed_add ed_int (ed_v 10))) (ed_v 2) (ed_v 3)) (pg_tup rfl (pgs_cons (pg_name (i := 5) sc__law_pair.nd rfl (.inl rfl)) (pgs_cons (pg_name (i := 6) sc__law_pair.nd rfl (.inl rfl)) pgs_nil))) ?_
        rintro l ⟨n, ff, hp, rfl⟩
        refine ⟨_, _, rfl, tg_two 5 6, ?_⟩
        refine go_asg (l := .d (Nd.right a).enc) 11 sc__law_pair.nd (ed_ifF (et_eqI (ed_v 10) ed_int) rfl (ed_tup (ds := [.str "right", a.enc]) (ea_cons ed_str (ea_cons (ed_ixT (ds := [.str "sum", a.enc, c.enc]) (ed_v 1) ed_int) ea_nil)))) ?_
        refine go_asg (l := .d (pairD (.right a n) (.right a ff))) 7 sc__law_pair.nd (ed_two (ed_tr (ed_v 11) (ed_l1 (ed_v 5))) (ed_tr (ed_v 11) (ed_l1 (ed_v 6)))) (go_thn (go_thn (go_thn ?_)))
        exact fin _ _ _ rfl rfl rfl ((hp.right hsm).mono hyb)
    | cnt =>
      refine go_if (k := false) (et_b (et_eqS (ed_v 4) ed_str) rfl) (fun e => by cases e) (fun _ => ?_)
      refine go_if (k := false) (et_b (et_eqS (ed_v 4) ed_str) rfl) (fun e => by cases e) (fun _ => ?_)
      refine go_if (k := false) (et_b (et_eqS (ed_v 4) ed_str) rfl) (fun e => by cases e) (fun _ => ?_)
      refine go_take (et_b (et_eqS (ed_v 4) ed_str) rfl) ?_
      refine go_asgV 12 sc__law_pair.nd (ev_draw (n := 4) ((d__law_draw T).up (by omega)) hr (ed_v 0) ed_int (by decide) (by decide)) ?_
      rintro l ⟨i, hi, rfl⟩
      refine go_asg (l := .d (pairD (.told i) (.told i))) 7 sc__law_pair.nd (ed_two (ed_tr (ed_tup (ds := [.str "told", .int i]) (ea_cons ed_str (ea_cons (ed_v 12) ea_nil))) (ed_lst (ds := []) ea_nil)) (ed_tr (ed_tup (ds := [.str "told", .int i]) (ea_cons ed_str (ea_cons (ed_v 12) ea_nil))) (ed_lst (ds := []) ea_nil))) (go_thn (go_thn (go_thn (go_thn ?_))))
      exact fin _ _ _ rfl rfl rfl (PairR.told hi (by omega))
    | let_ i =>
      obtain ⟨h1, h2⟩ := bP_let hb
      refine go_if (k := false) (et_b (et_eqS (ed_v 4) ed_str) rfl) (fun e => by cases e) (fun _ => ?_)
      refine go_if (k := false) (et_b (et_eqS (ed_v 4) ed_str) rfl) (fun e => by cases e) (fun _ => ?_)
      refine go_if (k := false) (et_b (et_eqS (ed_v 4) ed_str) rfl) (fun e => by cases e) (fun _ => ?_)
      refine go_if (k := false) (et_b (et_eqS (ed_v 4) ed_str) rfl) (fun e => by cases e) (fun _ => ?_)
      refine go_asgV (Φ := fun l => ∃ n ff, PairR (.let_ i) Γ b n ff ∧ l = .d (pairD n ff)) 7 sc__law_pair.nd (Ex.ev (P := fun M' l => M' = [(p, .pot)] ∧ ∃ n ff, PairR (.let_ i) Γ b n ff ∧ l = .d (pairD n ff)) (ex_call row hr (ea_cons (ed_v 0) (ea_cons (ed_v 1) (ea_cons (ed_v 2) (ea_cons (ed_v 3) ea_nil)))).ac ?_) fun M' l h => h) ?_
      · rintro M1 ls ⟨rfl, rfl⟩
        refine ⟨[(p, .pot)], [], _, List.Perm.refl _, ⟨p, i, Γ, deep, b, rfl, rfl, h1, h2, hb1, hΓ.up, rfl⟩, fun M' l h => ?_⟩
        rw [List.append_nil]
        exact h
      rintro l ⟨n, ff, hp, rfl⟩
      refine go_thn (go_thn (go_thn (go_thn ?_)))
      exact fin _ _ _ rfl rfl rfl hp
end
end K32

/-! # The steps as the program finds them on a row, as found on the tree -/
namespace K32
open PySem
theorem last_app {a b : List Nd} (h : b ≠ []) : (a ++ b).getLast? = b.getLast? := by
  cases b with
  | nil => exact absurd rfl h
  | cons x r => rw [List.getLast?_append]; simp [List.getLast?_cons]
theorem last_hd (t : Tr) : ∀ n, t.flat.getLast? = some n → n.hd = false := by
  have app : ∀ {a b : List Nd} {n : Nd}, b ≠ [] → (a ++ b).getLast? = some n → b.getLast? = some n := fun {a b n} h e => by rw [last_app h] at e; exact e
  have cons : ∀ {x : Nd} {b : List Nd} {n : Nd}, b ≠ [] → (x :: b).getLast? = some n → b.getLast? = some n := fun {x b n} h e => app (a := [x]) h e
  induction t with
  | name i => intro n h; cases h; rfl
  | told i => intro n h; cases h; rfl
  | fn A b ih => intro n h; exact ih n (cons (flat_ne b) h)
  | first b ih => intro n h; exact ih n (cons (flat_ne b) h)
  | second b ih => intro n h; exact ih n (cons (flat_ne b) h)
  | left A b ih => intro n h; exact ih n (cons (flat_ne b) h)
  | right A b ih => intro n h; exact ih n (cons (flat_ne b) h)
  | next b ih => intro n h; exact ih n (cons (flat_ne b) h)
  | call f a ih1 ih2 => intro n h; exact ih2 n (app (flat_ne a) (cons (by simp [flat_ne]) h))
  | both f a ih1 ih2 => intro n h; exact ih2 n (app (flat_ne a) (cons (by simp [flat_ne]) h))
  | lt f a ih1 ih2 => intro n h; exact ih2 n (app (flat_ne a) (cons (by simp [flat_ne]) h))
  | which s l r ih1 ih2 ih3 => intro n h; exact ih3 n (app (flat_ne r) (app (by simp [flat_ne]) (cons (by simp [flat_ne]) h)))
  | turns A s l r ih1 ih2 ih3 => intro n h; exact ih3 n (app (flat_ne r) (app (by simp [flat_ne]) (cons (by simp [flat_ne]) h)))
theorem pre_last (c : C1) : ∃ n, c.pre.getLast? = some n ∧ n.hd = c.held := by
  have one : ∀ (x : Nd) (t : Tr), ∃ n, (x :: t.flat).getLast? = some n ∧ n.hd = false := fun x t => by
    obtain ⟨n, hn⟩ : ∃ n, t.flat.getLast? = some n := by
      cases e : t.flat.getLast? with
      | none => exact absurd (List.getLast?_eq_none_iff.mp e) (flat_ne t)
      | some n => exact ⟨n, rfl⟩
    refine ⟨n, ?_, last_hd t n hn⟩
    have := last_app (a := [x]) (flat_ne t)
    exact this.trans hn
  have two : ∀ (x : Nd) (t u : Tr), ∃ n, (x :: (t.flat ++ u.flat)).getLast? = some n ∧ n.hd = false := fun x t u => by
    obtain ⟨n, hn⟩ : ∃ n, u.flat.getLast? = some n := by
      cases e : u.flat.getLast? with
      | none => exact absurd (List.getLast?_eq_none_iff.mp e) (flat_ne u)
      | some n => exact ⟨n, rfl⟩
    refine ⟨n, ?_, last_hd u n hn⟩
    have := last_app (a := x :: t.flat) (flat_ne u)
    exact this.trans hn
  cases c with
  | callR f => exact one _ f
  | bothR f => exact one _ f
  | ltB f => exact one _ f
  | whL s r => exact one _ s
  | whR s l => exact two _ s l
  | tuU A n s => exact one _ n
  | tuS A n u => exact two _ n u
  | _ => exact ⟨_, rfl, rfl⟩
theorem held_ctx : ∀ (C : List C1) (s : Tr) (h : Bool) (pre post : List Nd), heldAt (pre ++ ((plugs C s).flat ++ post)) pre.length = h → heldAt (pre ++ ((plugs C s).flat ++ post)) (pre.length + offs C) = helds h C
  | [], s, h, pre, post, e => e
  | c :: C, s, h, pre, post, e => by
    have e1 : pre ++ ((plugs (c :: C) s).flat ++ post) = (pre ++ c.pre) ++ ((plugs C s).flat ++ (c.post ++ post)) := by
      show pre ++ ((c.plug (plugs C s)).flat ++ post) = _
      rw [C1.flat_plug]; simp only [List.append_assoc]
    rw [e1]
    have z := held_ctx C s c.held (pre ++ c.pre) (c.post ++ post) (by
      obtain ⟨n, hn, hh⟩ := pre_last c
      have hp := C1.pre_pos c
      rw [List.length_append]
      have e2 : pre.length + c.pre.length = (pre.length + (c.pre.length - 1)) + 1 := by omega
      rw [e2]
      show (match ((pre ++ c.pre) ++ ((plugs C s).flat ++ (c.post ++ post)))[pre.length + (c.pre.length - 1)]? with | some n => n.hd | none => false) = _
      rw [List.append_assoc, List.getElem?_append_right (by omega), List.getElem?_append_left (by omega), show pre.length + (c.pre.length - 1) - pre.length = c.pre.length - 1 by omega, ← List.getLast?_eq_getElem?, hn]
      exact hh)
    rw [List.length_append] at z
    show heldAt _ (pre.length + (c.pre.length + offs C)) = helds c.held C
    rw [← Nat.add_assoc]
    exact z
theorem held_at (C : List C1) (s : Tr) : heldAt (plugs C s).flat (offs C) = helds false C := by
  have z := held_ctx C s false [] [] rfl
  simp only [List.nil_append, List.append_nil, List.length_nil, Nat.zero_add] at z
  exact z
/-- the row at the place -/
theorem drop_ctx (C : List C1) (s : Tr) : ∃ rest, (plugs C s).flat.drop (offs C) = s.flat ++ rest ∧ (∀ s', (plugs C s').flat = (plugs C s).flat.take (offs C) ++ (s'.flat ++ rest)) ∧ offs C + s.size + rest.length = (plugs C s).size := by
  obtain ⟨rest, h1, h2⟩ := flat_plugs C s
  refine ⟨rest, ?_, h1, h2⟩
  have e := h1 s
  have hl : ((plugs C s).flat.take (offs C)).length = offs C := by rw [List.length_take, Tr.flat_len]; omega
  have e2 : (plugs C s).flat.drop (offs C) = ((plugs C s).flat.take (offs C) ++ (s.flat ++ rest)).drop (offs C) := by rw [← e]
  rw [e2, List.drop_append_of_le_length (by omega), List.drop_of_length_le (by omega), List.nil_append]
/-- the kinds at the place -/
theorem kds_len (t : Tr) : ∀ Γ, (kds Γ t).length = t.size := by
  induction t <;> intro Γ <;> simp only [kds, Tr.size, List.length_cons, List.length_append, List.length_nil, *] <;> omega
theorem kds_head (Γ : List Kd) (t : Tr) : (kds Γ t)[0]? = some (kOf Γ t) := by cases t <;> rfl
theorem kds_plug (c : C1) (t : Tr) (Γ : List Kd) : ∃ a b, kds Γ (c.plug t) = a ++ (kds (c.env Γ) t ++ b) ∧ a.length = c.pre.length := by
  cases c with
  | fn A => exact ⟨[kOf Γ (.fn A t)], [], by simp [C1.plug, kds, C1.env], rfl⟩
  | first => exact ⟨[kOf Γ (.first t)], [], by simp [C1.plug, kds, C1.env], rfl⟩
  | second => exact ⟨[kOf Γ (.second t)], [], by simp [C1.plug, kds, C1.env], rfl⟩
  | left A => exact ⟨[kOf Γ (.left A t)], [], by simp [C1.plug, kds, C1.env], rfl⟩
  | right A => exact ⟨[kOf Γ (.right A t)], [], by simp [C1.plug, kds, C1.env], rfl⟩
  | next => exact ⟨[kOf Γ (.next t)], [], by simp [C1.plug, kds, C1.env], rfl⟩
  | callL a => exact ⟨[kOf Γ (.call t a)], kds Γ a, by simp [C1.plug, kds, C1.env], rfl⟩
  | bothL a => exact ⟨[kOf Γ (.both t a)], kds Γ a, by simp [C1.plug, kds, C1.env], rfl⟩
  | ltA a => exact ⟨[kOf Γ (.lt t a)], kds (kOf Γ t :: Γ) a, by simp [C1.plug, kds, C1.env], rfl⟩
  | callR f => exact ⟨kOf Γ (.call f t) :: kds Γ f, [], by simp [C1.plug, kds, C1.env], by simp [C1.pre, kds_len, Tr.flat_len]⟩
  | bothR f => exact ⟨kOf Γ (.both f t) :: kds Γ f, [], by simp [C1.plug, kds, C1.env], by simp [C1.pre, kds_len, Tr.flat_len]⟩
  | ltB f => exact ⟨kOf Γ (.lt f t) :: kds Γ f, [], by simp [C1.plug, kds, C1.env], by simp [C1.pre, kds_len, Tr.flat_len]⟩
  | whS l r => exact ⟨[kOf Γ (.which t l r)], kds ((kOf Γ t).one :: Γ) l ++ kds ((kOf Γ t).two :: Γ) r, by simp [C1.plug, kds, C1.env], rfl⟩
  | whL s r => exact ⟨kOf Γ (.which s t r) :: kds Γ s, kds ((kOf Γ s).two :: Γ) r, by simp [C1.plug, kds, C1.env], by simp [C1.pre, kds_len, Tr.flat_len]⟩
  | whR s l => exact ⟨kOf Γ (.which s l t) :: (kds Γ s ++ kds ((kOf Γ s).one :: Γ) l), [], by simp [C1.plug, kds, C1.env], by simp [C1.pre, kds_len, Tr.flat_len]⟩
  | tuN A u s => exact ⟨[kOf Γ (.turns A t u s)], kds (A :: Γ) u ++ kds Γ s, by simp [C1.plug, kds, C1.env], rfl⟩
  | tuU A n s => exact ⟨kOf Γ (.turns A n t s) :: kds Γ n, kds Γ s, by simp [C1.plug, kds, C1.env], by simp [C1.pre, kds_len, Tr.flat_len]⟩
  | tuS A n u => exact ⟨kOf Γ (.turns A n u t) :: (kds Γ n ++ kds (A :: Γ) u), [], by simp [C1.plug, kds, C1.env], by simp [C1.pre, kds_len, Tr.flat_len]⟩
theorem kds_at : ∀ (C : List C1) (s : Tr) (Γ : List Kd), (kds Γ (plugs C s))[offs C]? = some (kOf (envs Γ C) s)
  | [], s, Γ => kds_head Γ s
  | c :: C, s, Γ => by
    obtain ⟨a, b, e, hl⟩ := kds_plug c (plugs C s) Γ
    obtain ⟨rest, _, h2⟩ := flat_plugs C s
    have hs := size_pos s
    show (kds Γ (c.plug (plugs C s)))[c.pre.length + offs C]? = _
    rw [e, List.getElem?_append_right (by omega), List.getElem?_append_left (by rw [kds_len]; omega), show c.pre.length + offs C - a.length = offs C by omega]
    exact kds_at C s (c.env Γ)
/-- the rules that the program finds -/
theorem isRule_ctx {l rest : List Nd} {q : Nat} {s : Tr} (h : l.drop q = s.flat ++ rest) : isRule l q = (madeW s).isSome := by
  have h0 : l[q]? = some s.node := by
    have e : (l.drop q)[0]? = some s.node := by rw [h, Tr.flat_eq]; rfl
    rwa [List.getElem?_drop, Nat.add_zero] at e
  have h1 : l[q + 1]? = (s.flat ++ rest)[1]? := by rw [← h, List.getElem?_drop]
  unfold isRule
  rw [h0, h1]
  cases s with
  | name i => rfl
  | told i => rfl
  | fn A b => rfl
  | both a b => rfl
  | left B a => rfl
  | right B a => rfl
  | lt a b => rfl
  | call f a => cases f <;> simp [Tr.node, Tr.flat, wantW, madeW, Nd.word] <;> decide +kernel
  | first p => cases p <;> simp [Tr.node, Tr.flat, wantW, madeW, Nd.word] <;> decide +kernel
  | second p => cases p <;> simp [Tr.node, Tr.flat, wantW, madeW, Nd.word] <;> decide +kernel
  | which a l r => cases a <;> simp [Tr.node, Tr.flat, wantW, madeW, Nd.word, madeWhich] <;> decide +kernel
  | next p => cases p <;> simp [Tr.node, Tr.flat, wantW, madeW, Nd.word] <;> decide +kernel
  | turns A p u s => cases p <;> simp [Tr.node, Tr.flat, wantW, madeW, Nd.word] <;> decide +kernel
theorem dne {x y : Str} (h : x ≠ y) : (!decide (x = y)) = true := by simp [h]
theorem deq {x : Str} : (!decide (x = x)) = false := by simp
theorem openW_ctx {Γ : List Kd} {s : Tr} {k : Kd} (h : ty Γ s = some k) : (!decide (openW s.node k = s.node.word)) = (isFP k && !isFB s) := by
  cases k with
  | let_ i => exact deq
  | cnt => exact deq
  | sm a b => exact deq
  | fn a b =>
    cases s with
    | name i => exact dne (x := "fun") (y := "name") (by decide)
    | told i => exact dne (x := "fun") (y := "told") (by decide)
    | fn A x => exact deq (x := "fun")
    | call f x => exact dne (x := "fun") (y := "call") (by decide)
    | both x y => obtain ⟨_, _, q⟩ := bnd h; obtain ⟨_, _, q⟩ := bnd q; obtain ⟨_, _, _, q, _⟩ := kb_both q; cases q
    | first x => exact dne (x := "fun") (y := "first") (by decide)
    | second x => exact dne (x := "fun") (y := "second") (by decide)
    | left A x => exact dne (x := "fun") (y := "left") (by decide)
    | right A x => exact dne (x := "fun") (y := "right") (by decide)
    | which x y z => exact dne (x := "fun") (y := "which") (by decide)
    | next x => exact dne (x := "fun") (y := "next") (by decide)
    | turns A x y z => exact dne (x := "fun") (y := "turns") (by decide)
    | lt x y => exact dne (x := "fun") (y := "let") (by decide)
  | pr a b =>
    cases s with
    | name i => exact dne (x := "both") (y := "name") (by decide)
    | told i => exact dne (x := "both") (y := "told") (by decide)
    | fn A x => obtain ⟨_, _, q⟩ := bnd h; obtain ⟨_, _, q, _⟩ := kb_fn q; cases q
    | call f x => exact dne (x := "both") (y := "call") (by decide)
    | both x y => exact deq (x := "both")
    | first x => exact dne (x := "both") (y := "first") (by decide)
    | second x => exact dne (x := "both") (y := "second") (by decide)
    | left A x => exact dne (x := "both") (y := "left") (by decide)
    | right A x => exact dne (x := "both") (y := "right") (by decide)
    | which x y z => exact dne (x := "both") (y := "which") (by decide)
    | next x => exact dne (x := "both") (y := "next") (by decide)
    | turns A x y z => exact dne (x := "both") (y := "turns") (by decide)
    | lt x y => exact dne (x := "both") (y := "let") (by decide)
theorem rulesL_ctx {C : List C1} {s : Tr} {k : Kd} (h : ty (envs [] C) s = some k) : rulesL (plugs C s).flat (offs C) s.node k = rulesT (envs [] C) (helds false C) s := by
  obtain ⟨rest, h1, _, _⟩ := drop_ctx C s
  unfold rulesL rulesA rulesT ruleW longs longOk
  rw [isRule_ctx h1, held_at, openW_ctx h, kOf_eq h]
  congr 1
  cases isFP k <;> cases helds false C <;> cases isFB s <;> rfl
end K32

set_option maxRecDepth 100000
set_option maxHeartbeats 4000000
namespace K32
open PySem L2
/-- the trees of a row, as the law builds them from behind; the last one built first -/
def Sd : List Nd → List PyData
  | [] => []
  | n :: r => .tuple [n.enc, .list ((Sd r).take n.binds.length)] :: (Sd r).drop n.binds.length
theorem Sd_tree (t : Tr) : ∀ rest, Sd (t.flat ++ rest) = t.enc :: Sd rest := by
  induction t with
  | name i => intro rest; rfl
  | told i => intro rest; rfl
  | fn A b ih => intro rest; show Sd (.fn A :: (b.flat ++ rest)) = _; simp only [Sd, ih, Nd.binds, List.length_cons, List.length_nil, List.take_succ_cons, List.take_zero, List.drop_succ_cons, List.drop_zero]; rfl
  | first b ih => intro rest; show Sd (.first :: (b.flat ++ rest)) = _; simp only [Sd, ih, Nd.binds, List.length_cons, List.length_nil, List.take_succ_cons, List.take_zero, List.drop_succ_cons, List.drop_zero]; rfl
  | second b ih => intro rest; show Sd (.second :: (b.flat ++ rest)) = _; simp only [Sd, ih, Nd.binds, List.length_cons, List.length_nil, List.take_succ_cons, List.take_zero, List.drop_succ_cons, List.drop_zero]; rfl
  | left A b ih => intro rest; show Sd (.left A :: (b.flat ++ rest)) = _; simp only [Sd, ih, Nd.binds, List.length_cons, List.length_nil, List.take_succ_cons, List.take_zero, List.drop_succ_cons, List.drop_zero]; rfl
  | right A b ih => intro rest; show Sd (.right A :: (b.flat ++ rest)) = _; simp only [Sd, ih, Nd.binds, List.length_cons, List.length_nil, List.take_succ_cons, List.take_zero, List.drop_succ_cons, List.drop_zero]; rfl
  | next b ih => intro rest; show Sd (.next :: (b.flat ++ rest)) = _; simp only [Sd, ih, Nd.binds, List.length_cons, List.length_nil, List.take_succ_cons, List.take_zero, List.drop_succ_cons, List.drop_zero]; rfl
  | call f a ih1 ih2 => intro rest; show Sd (.call :: ((f.flat ++ a.flat) ++ rest)) = _; rw [List.append_assoc]; simp only [Sd, ih1, ih2, Nd.binds, List.length_cons, List.length_nil, List.take_succ_cons, List.take_zero, List.drop_succ_cons, List.drop_zero]; rfl
  | both f a ih1 ih2 => intro rest; show Sd (.both :: ((f.flat ++ a.flat) ++ rest)) = _; rw [List.append_assoc]; simp only [Sd, ih1, ih2, Nd.binds, List.length_cons, List.length_nil, List.take_succ_cons, List.take_zero, List.drop_succ_cons, List.drop_zero]; rfl
  | lt f a ih1 ih2 => intro rest; show Sd (.lt :: ((f.flat ++ a.flat) ++ rest)) = _; rw [List.append_assoc]; simp only [Sd, ih1, ih2, Nd.binds, List.length_cons, List.length_nil, List.take_succ_cons, List.take_zero, List.drop_succ_cons, List.drop_zero]; rfl
  | which s l r ih1 ih2 ih3 => intro rest; show Sd (.which :: ((s.flat ++ (l.flat ++ r.flat)) ++ rest)) = _; rw [List.append_assoc, List.append_assoc]; simp only [Sd, ih1, ih2, ih3, Nd.binds, List.length_cons, List.length_nil, List.take_succ_cons, List.take_zero, List.drop_succ_cons, List.drop_zero]; rfl
  | turns A s l r ih1 ih2 ih3 => intro rest; show Sd (.turns A :: ((s.flat ++ (l.flat ++ r.flat)) ++ rest)) = _; rw [List.append_assoc, List.append_assoc]; simp only [Sd, ih1, ih2, ih3, Nd.binds, List.length_cons, List.length_nil, List.take_succ_cons, List.take_zero, List.drop_succ_cons, List.drop_zero]; rfl
theorem Sd_len : ∀ l : List Nd, (Sd l).length ≤ l.length
  | [] => Nat.le_refl _
  | n :: r => by
    have := Sd_len r
    show ((Sd r).drop n.binds.length).length + 1 ≤ r.length + 1
    rw [List.length_drop]; omega
theorem Sd_enough {t : Tr} {p : Nat} {n : Nd} (h : t.flat[p]? = some n) : n.binds.length ≤ (Sd (t.flat.drop (p + 1))).length := by
  have hp := (List.getElem?_eq_some_iff.mp h).1
  rw [Tr.flat_len] at hp
  obtain ⟨s, rest, hs⟩ := sub_at t p [] hp
  rw [List.append_nil] at hs
  have e1 := drop_cons h
  rw [e1, Tr.flat_eq s, List.cons_append] at hs
  injection hs with h1 h2
  rw [h2, h1, ← Tr.parts_len]
  have fl : ∀ (ts : List Tr) (rest : List Nd), Sd (Tr.flats ts ++ rest) = ts.map Tr.enc ++ Sd rest := fun ts => by
    induction ts with
    | nil => intro rest; rfl
    | cons t ts ih => intro rest; show Sd ((t.flat ++ Tr.flats ts) ++ rest) = _; rw [List.append_assoc, Sd_tree, ih]; rfl
  rw [fl, List.length_append, List.length_map]
  omega
section
variable {P : Program} {w : World} {K : PySem.W.Frag} {mg : Str → Option Value} {base : Heap}
def R_ltwo : Owns → List Lo → Post → Prop := fun M ls Po => ∃ (p : Addr), M = [(p, .pot)] ∧ ls = [.v (.ref p), .d (.int (2 : Nat))] ∧ Po = fun M' l => M' = [(p, .pot)] ∧ ∃ k ∈ drawnK, ∃ b n ff, PairR k [] b n ff ∧ b ≤ 100 ∧ l = .d (.tuple [.list (encs n.flat), .list (encs ff.flat)])
def R_ltree : List PyData → PyData → Prop := fun ds d => ∃ t : Tr, ds = [.list (encs t.flat)] ∧ t.size ≤ 300 ∧ d = t.enc
theorem drawn_small : ∀ k ∈ drawnK, ∃ b, bP 20 k [] 2 = some b ∧ b ≤ 100 := by
  have h : drawnK.all (fun k => match bP 20 k [] 2 with | some b => decide (b ≤ 100) | none => false) = true := by decide +kernel
  intro k hk
  have z := List.all_eq_true.mp h k hk
  cases e : bP 20 k [] 2 with
  | none => rw [e] at z; cases z
  | some b => rw [e] at z; exact ⟨b, rfl, of_decide_eq_true z⟩
theorem d__law_two (T : Tx w K mg) : Def P w K mg base CX0 "_law_two" 147 ["_law_pot_here", "_law_deep"] (spO K R_ltwo) := by
  refine def_O (f__law_two T) (g__law_two T) sc__law_two (fun _ _ _ _ _ _ us hl => match us, hl with | [_, _], _ => rfl) (fun M ls Po h => by obtain ⟨p, rfl, rfl, rfl⟩ := h; rfl) fun cdv A outer s H E hr M ls Po h O D hD hq => ?_
  obtain ⟨p, rfl, rfl, rfl⟩ := h
  refine go_tupV (Φ := fun l => ∃ k ∈ drawnK, ∃ b n ff, PairR k [] b n ff ∧ b ≤ 100 ∧ l = .d (pairD n ff)) (Ex.ev (P := fun M' l => M' = [(p, .pot)] ∧ ∃ k ∈ drawnK, ∃ b n ff, PairR k [] b n ff ∧ b ≤ 100 ∧ l = .d (pairD n ff)) (ex_call ((d_lpair T 20).up (by decide)) hr (ac_d (ed_v 0) (ac_v (Φ := fun l => ∃ k ∈ drawnK, l = .d k.enc) (Ex.ev (P := fun M' l => M' = [(p, .pot)] ∧ ∃ k ∈ drawnK, l = .d k.enc) (ex_call ((d__law_drawn_kind T).up (by decide)) hr (ea_cons (ed_v 0) ea_nil).ac ?_) fun M' l h => h) (ac_d (ed_lst (ds := []) ea_nil) (ac_d (ed_v 1) ac_nil)))) ?_) fun M' l h => h)
    (pg_tup rfl (pgs_cons (pg_name (i := 2) sc__law_two.nd rfl (.inl rfl)) (pgs_cons (pg_name (i := 3) sc__law_two.nd rfl (.inl rfl)) pgs_nil))) ?_
  · rintro M1 ls ⟨rfl, rfl⟩
    refine ⟨[(p, .pot)], [], _, List.Perm.refl _, ⟨p, rfl, rfl, rfl⟩, fun M' l h => ?_⟩
    rw [List.append_nil]
    exact h
  · rintro M1 ls ⟨r, rfl, l2, r2, rfl, ⟨k, hk, rfl⟩, r3, rfl, r4, rfl, rfl, rfl⟩
    obtain ⟨b, hb, hb1⟩ := drawn_small k hk
    refine ⟨[(p, .pot)], [], _, List.Perm.refl _, ⟨p, k, [], 2, b, rfl, rfl, hb, hb1, ⟨fun A hA => (by cases hA), fun A hA => (by cases hA), by decide⟩, rfl⟩, fun M' l h => ?_⟩
    rw [List.append_nil]
    obtain ⟨rfl, n, ff, h1, rfl⟩ := h
    exact ⟨rfl, k, hk, b, n, ff, h1, hb1, rfl⟩
  rintro l ⟨k, hk, b, n, ff, hp, hb, rfl⟩
  refine ⟨_, _, rfl, tg_two 2 3, ?_⟩
  have h1 := deep_le n
  have h2 := deep_le ff
  have h3 := hp.sn
  have h4 := hp.sf
  refine go_retX (Ed.ex (ed_two (ed_callR (ds := [n.enc]) ((d_lflat T 100).up (by decide)) hr (ea_cons (ed_v 2) ea_nil) ⟨n, rfl, by omega, by omega, rfl⟩) (ed_callR (ds := [ff.enc]) ((d_lflat T 100).up (by decide)) hr (ea_cons (ed_v 3) ea_nil) ⟨ff, rfl, by omega, by omega, rfl⟩))) (hq.imp fun M' l h => ?_)
  obtain ⟨rfl, rfl⟩ := h
  exact ⟨rfl, k, hk, b, n, ff, hp, hb, rfl⟩
theorem d__law_tree (T : Tx w K mg) : Def P w K mg base CX0 "_law_tree" 2 ["_law_term"] (spR K R_ltree) := by
  refine def_R (f__law_tree T) (g__law_tree T) sc__law_tree (fun _ _ _ _ _ _ us hl => match us, hl with | [_], _ => rfl) (fun ds d h => by obtain ⟨t, rfl, hz, rfl⟩ := h; rfl) fun cdv A outer s H E hr ds d h O D hD hq => ?_
  obtain ⟨t, rfl, hz, rfl⟩ := h
  have hfl := Tr.flat_len t
  refine go_asgL (ls := []) 1 sc__law_tree.nd (el_lst ea_nil) fun sp hsp => ?_
  refine go_for (fun i => [(sp, .lst ((Sd (t.flat.drop (t.size - i))).reverse.map .d))]) (fun i => [.d (.list (encs t.flat)), .v (.ref sp), .no, .no, .no])
    (it_list (El.ed (el_revL (ed_v 0)))) (pg_name (i := 2) sc__law_tree.nd rfl (.inl rfl)) ?_ rfl (fun L i hi => ⟨_, tg_name 2, ?_⟩) ?_
  · rw [Nat.sub_zero, List.drop_of_length_le (by omega)]; rfl
  · rw [List.length_reverse, encs_len, hfl] at hi
    obtain ⟨n, hn⟩ := get_lt (l := t.flat) (i := t.size - 1 - i) (by omega)
    have en : (encs t.flat).reverse.getD i .none = n.enc := by
      rw [List.getD_eq_getElem?_getD, List.getElem?_reverse (by rw [encs_len]; omega), encs_len, hfl, encs_get hn]; rfl
    rw [en]
    have ed1 : t.flat.drop (t.size - (i + 1)) = n :: t.flat.drop (t.size - i) := by
      have := drop_cons hn
      rw [show t.size - (i + 1) = t.size - 1 - i by omega, this, show t.size - 1 - i + 1 = t.size - i by omega]
    have hen := Sd_enough hn
    rw [show t.size - 1 - i + 1 = t.size - i by omega] at hen
    have hSl : (Sd (t.flat.drop (t.size - i))).length ≤ 300 := by have := Sd_len (t.flat.drop (t.size - i)); rw [List.length_drop] at this; omega
    rw [ed1]
    generalize hS : Sd (t.flat.drop (t.size - i)) = S at hen hSl
    refine go_asgL (ls := []) 3 sc__law_tree.nd (el_lst ea_nil) fun pp hpp => ?_
    refine go_for (fun j => [(pp, .lst ((S.take j).map .d)), (sp, .lst ((S.drop j).reverse.map .d))]) (fun j => [.d (.list (encs t.flat)), .v (.ref sp), .d n.enc, .v (.ref pp), .no])
      (it_list (ed_callR (ds := [.str n.word]) ((d__law_binds T).up (by decide)) hr (ea_cons (ed_word (ed_v 2)) ea_nil) ⟨n, rfl, rfl⟩)) (pg_name (i := 4) sc__law_tree.nd rfl (.inl rfl)) rfl rfl (fun L' j hj => ⟨_, tg_name 4, ?_⟩) ?_
    · rw [intsD_len] at hj
      obtain ⟨x, hx⟩ := get_lt (l := S) (i := j) (by omega)
      have e1 : (S.drop j).reverse = (S.drop (j + 1)).reverse ++ [x] := by rw [drop_cons hx, List.reverse_cons]
      rw [e1, List.map_append]
      refine go_appendPop 1 0 (ed_v 3) rfl (ed_v 1) rfl (by decide) (by rw [List.length_map, List.length_take]; omega) ?_
      refine go_turnW ?_
      rw [take_succ' hx]
      simp only [List.set_cons_zero, List.set_cons_succ, List.map_append]
      rfl
    · rw [intsD_len]
      refine go_freeze (ds := S.take n.binds.length) 0 3 hpp ?_ rfl
      refine go_append 0 1 (ed_v 1) rfl (l := .d (.tuple [n.enc, .list (S.take n.binds.length)])) (ed_two (ed_v 2) (ed_v 3)) (by rw [List.length_map, List.length_reverse, List.length_drop]; omega) ?_
      refine go_turnW ?_
      show [(sp, Own.lst ((S.drop n.binds.length).reverse.map Lo.d ++ [.d (.tuple [n.enc, .list (S.take n.binds.length)])]))] = [(sp, Own.lst ((Sd (n :: t.flat.drop (t.size - i))).reverse.map .d))]
      simp only [Sd, hS, List.reverse_cons, List.map_append]
      rfl
  · rw [List.length_reverse, encs_len, hfl, Nat.sub_self, List.drop_zero]
    have e : Sd t.flat = [t.enc] := by have := Sd_tree t []; rw [List.append_nil] at this; exact this
    rw [e]
    exact go_ret (ed_ixO (ed_v 1) (.head _) ed_int rfl) hq
end
end K32

set_option maxRecDepth 100000
set_option maxHeartbeats 4000000
namespace K32
open PySem L2 PyProof.Rows
/-! ## An own error: raised, caught -/
/-- X() -/
theorem pmk_own0 {X : Cx} {C : Addr} {bmB : List Value} {B newId initId : String} {x : Str} {p pos : Pos} (F : ExcBaseFacts B newId initId bmB) (q : PySem.W.excIn X.K C bmB newId = true) (gC : X.mg x = some (.ref C)) (kC : PySem.W.keepIn X.K (.ref C) = true) (r : Raises X (.ref C)) (hg : Gl X x)
    (hdb : (x == ("__debug__" : Str)) = false := by decide) : PMk X (.Call (.Name x p) [] [] pos) (fun _ H Q => Q (.ref C) none H) := by
  intro pins s σ H Q I h
  refine wpAny_Call_Name_kw (ld_glob I hg gC ?_ hdb)
  refine PySem.W.callWith_K0 I.kIn kC ?_
  obtain ⟨bm, N, nm, qn, bs, hdct, sn, sub, ab, col, dd, k0, k1, k2, k3, k5, mN, hC, hN, hni, T⟩ := exc_obj I.kIn q
  obtain ⟨hp, g, d, t, os⟩ := s
  refine PySem.wpAny_call_exc_subT F T hC hN hni (fun h' e hm => ?_) (Nat.zero_le _)
  exact mk_of I hm r h (I.hok.gone hm.new)
abbrev nsC (K : PySem.W.Frag) : Value := .ref (He.ga K "NoStep")
section
variable {w : World} {K : PySem.W.Frag} {mg : Str → Option Value} (T : Tx w K mg)
include T
theorem Tx.nsExc : PySem.W.excIn K (He.ga K "NoStep") [.type "RuntimeError", .type "Exception", .type "BaseException", .type "object"] "RuntimeError.__new__" = true := T.xs 24
theorem Tx.nsKeep : PySem.W.keepIn K (nsC K) = true := He.keep_ok (T.fact 124)
theorem Tx.nsExm : PySem.W.exmOne K (nsC K) (nsC K) = some true := He.exm_ok (T.fact 126)
theorem Tx.nsRaises {X : Cx} (e : X.K = K) : Raises X (nsC K) := raises_own (by rw [e]; exact of_decide_eq_true (T.xs 25)) (by rw [e]; exact of_decide_eq_true (T.xs 26))
end
/-- promises of defs that raise, and leave nothing -/
def spN (K : PySem.W.Frag) (R : List PyData → Prop) : Sp := fun vs H _ E => ∃ B ds, Same B H ∧ DaAll K B vs ds ∧ R ds ∧ ∀ B' H', Nx [] B H B' H' → E (nsC K) none H'
section
variable {X : Cx} {O : Og} {M : Owns} {ρ : List Lo} {D : Ends} {rest : List Stmt} {e : Expr} {es : List Expr}
theorem go_raise {W : WX} {cls : Value} {pos : Pos} (hc : X.calm = true) (tk : Takes X W) (he : PMk X e (fun _ H Q => Q cls none H)) (h : ∀ B σ H, Sit X.K O B M ρ σ H → W cls none σ H) : Go X O M ρ D (.Raise (some e) none pos :: rest) :=
  go_cons fun B σ H S => wS_of (ps_raise hc tk he) (h B σ H S)
/-- a call that raises -/
theorem go_callN {W : WX} {x : Str} {k : Nat} {ps : List Str} {R : List PyData → Prop} {ds : List PyData} {p1 pos pos' : Pos} (F : Def X.prog X.w X.K X.mg X.base (L2.CX X.prog X.w) x k ps (spN X.K R)) (hr : Room k X.A) (ha : Ea X O M ρ (e :: es) (ds.map .d)) (h : R ds)
    (tk : Takes X W) (hw : ∀ B σ H, Sit X.K O B M ρ σ H → W (nsC X.K) none σ H)
    (hg : Gl X x := by rfl) (hdb : (x == ("__debug__" : Str)) = false := by decide) (he : starEach (e :: es) X.env = (false, eval e X.env) :: starEach es X.env := by rfl)
    (hpl : (backTo pos (starEach es X.env)).any (·.1) = false := by rfl) (hs : swapsWith (.Call (.Name x p1) (e :: es) [] pos) none pos'.line X.env = pure false := by rfl) : Go X O M ρ D (.Expr (.Call (.Name x p1) (e :: es) [] pos) pos' :: rest) :=
  go_cons fun B σ H S => by
    obtain ⟨f, fd, F, hm, hk, hb⟩ := F.ex
    refine wS_of (ps_expr (pe_callS F hr hg hm hk hb (fun σ => passAt tk σ) pa_w hdb he hpl) hs) (ha B σ H S _ fun vs B1 H1 e1 S1 r1 => ?_)
    exact ⟨B1, ds, S1.bh, Los.da r1, h, fun B2 H2 n => hw B2 σ H2 (S1.step n)⟩
/-- try: .. except x: .., where the body leaves what stands -/
theorem go_tryN {x : Str} {c : Value} {body suite : List Stmt} {b₀ : Stmt} {np pos pos' : Pos} (hc : Names X x c) (hx : PySem.W.exmOne X.K c c = some true)
    (hb : ∀ (pn : List (Addr × Obj)) (xe : Value → Shared → Prop) (W : WX), Takes (X.tr pn xe) W → (∀ B σ H, Sit X.K O B M ρ σ H → W c none σ H) → Go (X.tr pn xe) O M ρ (thn X D rest) body)
    (hsu : ∀ (a : Addr) (pn : List (Addr × Obj)), Go (X.suite a pn) O M ρ (thn X D rest) (b₀ :: suite))
    (hs : X.stack = X.env :: X.outer := by rfl) (hf : X.env.frame = some X.env.locals := by rfl) : Go X O M ρ D (.Try body [.ExceptHandler (some (.Name x np)) none (b₀ :: suite) pos'] [] [] pos :: rest) :=
  go_cons fun B σ H S => by
    refine wS_of (ps_try_only (Wout := fun _ _ _ _ => False) (tb := fun W D σ H => ∀ pn xe, Takes (X.tr pn xe) W → wSs (X.tr pn xe) body D σ H)
      (ts := fun a cls d D σ H => ∀ pn, wSs (X.suite a pn) (b₀ :: suite) D σ H) hs hf hc takes0 (fun W pn xe tk po => ?_) fun a oe cls d pn hz hv => ?_) ?_
    · exact ⟨fun pins s σ H D I h => wSs_at (h pn xe tk) pins s I⟩
    · exact ⟨fun pins s σ H D I h => wSs_at (h _) pins s I⟩
    · intro pn xe tk
      refine hb pn xe _ tk (fun B1 σ1 H1 S1 => ⟨true, hx, fun _ a _ => ?_, fun z => by cases z⟩) B σ H S
      exact fun pn => hsu a pn B1 σ1 H1 S1
end
section
variable {P : Program} {w : World} {K : PySem.W.Frag} {mg : Str → Option Value} {base : Heap} {x : Str} {st : Stmt} {N ps : List Str} {f : Addr} {k : Nat}
abbrev cxN (P : Program) (w : World) (K : PySem.W.Frag) (mg : Str → Option Value) (base : Heap) (x : Str) (st : Stmt) (N : List Str) (f : Addr) (cdv : Value) (A : Around) (outer : List Env) (s : Shared) (H : Hp) (E : XK) : Cx :=
  cxOf (L2.CX P w) P w K mg base N x (defScope st) f cdv A outer s H E
theorem def_N {R : List PyData → Prop} (F : ∃ fd, FunD K x x (defArgs st) (defBody st) (defScope st) [] [] f fd) (hm : mg x = some (.ref f)) (S : FnScope N ps (defScope st))
    (hb : ∀ (kV doc pm : Value) (an : Option Addr) (cdv ct : Value) (us : List Value), us.length = ps.length → bindArgs (PySem.W.fnOf x x (defArgs st) (defBody st) (defScope st) .none kV doc pm an cdv ct) ⟨us, []⟩ = pure (ps.zip us))
    (hlen : ∀ ds, R ds → ds.length = ps.length)
    (body : ∀ (cdv : Value) (A : Around) (outer : List Env) (s : Shared) (H : Hp) (E : XK), Room k (A.deeper (PyProof.Rows.envOfC x (defScope st) s.heap.objs.size f cdv)) → ∀ ds, R ds → ∀ (O : Og) (D : Ends) (W : WX),
      Takes (cxN P w K mg base x st N f cdv A outer s H E) W → (∀ B M ρ σ H', Sit K O B M ρ σ H' → W (nsC K) none σ H') → Go (cxN P w K mg base x st N f cdv A outer s H E) O [] (at0 N ds) D (defBody st)) :
    Def P w K mg base (L2.CX P w) x (k + 1) ps (spN K R) := by
  obtain ⟨fd, F⟩ := F
  refine ⟨f, fd, F.ok S (fun vs H Q E h => ?_) fun cdv A outer s H vs Q E hr h => ?_, hm, F.kp, F.bindsN hb⟩
  · obtain ⟨B, ds, _, h2, h3, _⟩ := h
    rw [h2.length, hlen _ h3]
  · obtain ⟨B, ds, h1, h2, h3, h4⟩ := h
    refine ⟨wSs (cxN P w K mg base x st N f cdv A outer s H E) (defBody st), pss_w, ?_⟩
    refine body cdv A outer s H E hr ds h3 ⟨B, H, [], B⟩ _ (fun cls d _ H => E cls d H) (takes_of rfl rfl rfl rfl) (fun B' M ρ σ H' S' => h4 B' H' S'.nx) B _ H ⟨Nx.refl h1, Same.refl _, fun p hp => by simp at hp, .nil, ?_⟩
    have z := sls_start (N := N) (Los.of_da h2)
    rw [List.length_map] at z
    exact z
end
end K32

set_option maxRecDepth 100000
set_option maxHeartbeats 4000000
namespace K32
open PySem L2
theorem go_thnX {X Y : Cx} {O : Og} {M : Owns} {ρ : List Lo} {D : Ends} {rest : List Stmt} (h : Go X O M ρ D rest) (e : Y.K = X.K) : Go Y O M ρ (thn X D rest) [] := go_nil fun B σ H S => h B σ H (by rw [← e]; exact S)
section
variable {P : Program} {w : World} {K : PySem.W.Frag} {mg : Str → Option Value} {base : Heap}
def R_steppedN : List PyData → Prop := fun ds => ∃ (e : PyData) (t0 : Tr) (ks : List Kd) (p : Nat) (n : Nd) (k : Kd) (rule : Str), ds = [e, .int p, .str rule] ∧ SeqD e (encs t0.flat) ∧ Prog t0.flat ks ∧ t0.flat[p]? = some n ∧ ks[p]? = some k ∧ ruleS.contains rule = true ∧ (rulesL t0.flat p n k).contains rule = false
theorem d_steppedN (T : Tx w K mg) : Def P w K mg base (L2.CX P w) "stepped" 12 ["program", "position", "rule"] (spN K R_steppedN) := by
  refine def_N (f_stepped T) (g_stepped T) sc_stepped (fun _ _ _ _ _ _ us hl => match us, hl with | [_, _, _], _ => rfl) (fun ds h => by obtain ⟨e, t0, ks, p, n, k, rule, rfl, h⟩ := h; rfl) fun cdv A outer s H E hr ds h O D W tk hw => ?_
  obtain ⟨e, t0, ks, p, n, k, rule, rfl, he, hP, hn, hk, hr1, hr2⟩ := h
  have hl : p < t0.flat.length := (List.getElem?_eq_some_iff.mp hn).1
  refine go_asg (l := .d (.list (encs t0.flat))) 3 sc_stepped.nd (ed_callR (ds := [e]) (d_want_program T) hr (ea_cons (ed_v 0) ea_nil) ⟨e, t0.flat, ks, rfl, he, hP, rfl⟩) ?_
  refine go_drop (ed_callR (ds := [.list (encs t0.flat), .int p]) ((d_want_position T).up (by decide)) hr (ea_cons (ed_v 3) (ea_cons (ed_v 1) ea_nil)) ⟨_, encs t0.flat, p, rfl, .inl rfl, by rw [encs_len]; omega, rfl⟩) ?_
  refine go_skip (et_b (et_or (et_b (k' := false) (et_not (et_v (ed_isn "str" "str" true (b_isinstance T) (ed_v 2) (b_str T)))) rfl) fun _ => et_b (k' := false) (et_ninS (ed_v 2) (ed_rules T)) (by unfold ruleS at hr1; rw [hr1]; rfl)) rfl) ?_
  refine go_take (et_b (et_not (et_v (ed_callR (ds := [.list (encs t0.flat), .int p, .str rule]) ((d_is_first_at T).up (by decide)) hr (ea_cons (ed_v 3) (ea_cons (ed_v 1) (ea_cons (ed_v 2) ea_nil))) ⟨t0, ks, p, n, k, rule, rfl, hP.kinds, hP.most, hn, hk, rfl⟩))) (by rw [hr2]; rfl)) ?_
  exact go_raise rfl tk (pmk_own0 F.excBase_RuntimeError T.nsExc (T.glo 79) T.nsKeep (T.nsRaises rfl) rfl) fun B σ H' S => hw B _ _ σ H' S
def R_lismade : List PyData → PyData → Prop := fun ds d => ∃ (t0 : Tr) (ks : List Kd) (p : Nat) (n : Nd) (k : Kd) (rule : Str), ds = [.list (encs t0.flat), .int p, .str rule] ∧ Prog t0.flat ks ∧ t0.flat[p]? = some n ∧ ks[p]? = some k ∧ ruleS.contains rule = true ∧
  ((rulesL t0.flat p n k).contains rule = true → ∃ t rest t', Stp t0 p t rest rule t' ks ∧ t.node = n) ∧ d = .bool ((rulesL t0.flat p n k).contains rule)
theorem d__law_is_made (T : Tx w K mg) : Def P w K mg base CX0 "_law_is_made" 13 ["_law_term", "_law_position", "_law_rule"] (spR K R_lismade) := by
  refine def_R (f__law_is_made T) (g__law_is_made T) sc__law_is_made (fun _ _ _ _ _ _ us hl => match us, hl with | [_, _, _], _ => rfl) (fun ds d h => by obtain ⟨t0, ks, p, n, k, rule, rfl, hP, hn, hk, hr1, hS, rfl⟩ := h; rfl) fun cdv A outer s H E hr ds d h O D hD hq => ?_
  obtain ⟨t0, ks, p, n, k, rule, rfl, hP, hn, hk, hr1, hS, rfl⟩ := h
  refine go_asg (l := .d (.int 1)) 3 sc__law_is_made.nd ed_int ?_
  cases hc : (rulesL t0.flat p n k).contains rule with
  | true =>
    obtain ⟨t, rest, t', hS1, rfl⟩ := hS hc
    refine go_try (go_drop (el_callL (ds := [.list (encs t0.flat), .int p, .str rule]) (d_stepped T) hr (ea_cons (ed_v 0) (ea_cons (ed_v 1) (ea_cons (ed_v 2) ea_nil))) ⟨_, t0, p, t, rest, rule, t', ks, k, rfl, .inl rfl, hP, hS1, hk, hc, rfl⟩).ed ?_)
    refine go_thn (go_ret ((ed_eqI (ed_v 3) ed_int).is rfl) (d := .bool true) (by rw [hc] at hq; exact hq))
  | false =>
    refine go_tryN ⟨rfl, rfl, .inl (T.glo 79)⟩ T.nsExm (fun pn xe W tk hw => ?_) (fun a pn => ?_)
    · exact go_callN (ds := [.list (encs t0.flat), .int p, .str rule]) (d_steppedN T) hr (ea_cons (ed_v 0) (ea_cons (ed_v 1) (ea_cons (ed_v 2) ea_nil))) ⟨_, t0, ks, p, n, k, rule, rfl, .inl rfl, hP, hn, hk, hr1, hc⟩ tk hw
    · refine go_asg (l := .d (.int 0)) 3 sc__law_is_made.nd ed_int ?_
      exact go_thnX (go_ret ((ed_eqI (ed_v 3) ed_int).is rfl) (d := .bool false) (by rw [hc] at hq; exact hq)) rfl
end
end K32

/-! # A tree's steps: as the program finds and takes them, as the law finds and takes them -/
namespace K32
open PySem
theorem sub_ty : ∀ (C : List C1) {s : Tr} {Γ : List Kd} {k : Kd}, ty Γ (plugs C s) = some k → ∃ k', ty (envs Γ C) s = some k'
  | [], s, Γ, k, h => ⟨k, h⟩
  | c :: C, s, Γ, k, h => by obtain ⟨k', h1⟩ := C1.ty_part h; exact sub_ty C h1
/-- at a place of a typed tree -/
theorem ctx_get {C : List C1} {s : Tr} : (plugs C s).flat[offs C]? = some s.node := by
  obtain ⟨rest, h1, _, _⟩ := drop_ctx C s
  have e : ((plugs C s).flat.drop (offs C))[0]? = some s.node := by rw [h1, Tr.flat_eq]; rfl
  rwa [List.getElem?_drop, Nat.add_zero] at e
theorem same_place {C C' : List C1} {s s' : Tr} {k : Kd} (h : ty [] (plugs C s) = some k) (e : plugs C s = plugs C' s') (o : offs C = offs C') : rulesT (envs [] C) (helds false C) s = rulesT (envs [] C') (helds false C') s' := by
  obtain ⟨k1, h1⟩ := sub_ty C h
  have h' : ty [] (plugs C' s') = some k := by rw [← e]; exact h
  obtain ⟨k2, h2⟩ := sub_ty C' h'
  have n1 := ctx_get (C := C) (s := s)
  have n2 := ctx_get (C := C') (s := s')
  rw [← e, ← o, n1] at n2
  have q1 := kds_at C s []
  have q2 := kds_at C' s' []
  rw [← e, ← o, q1] at q2
  rw [kOf_eq h1, kOf_eq h2] at q2
  cases q2
  have r1 := rulesL_ctx h1
  have r2 := rulesL_ctx h2
  rw [← r1, ← r2, ← e, ← o, Option.some.inj n2]
/-- the steps at a place -/
theorem looks_rules {t : Tr} {k0 : Kd} (h : ty [] t = some k0) {p : Nat} (hp : p < t.size) : ∃ C s k, t = plugs C s ∧ p = offs C ∧ t.flat[p]? = some s.node ∧ (kds [] t)[p]? = some k ∧ ty (envs [] C) s = some k ∧ rulesL t.flat p s.node k = rulesT (envs [] C) (helds false C) s ∧
    ∀ r, ((p, r) ∈ looks [] 0 false t ↔ r ∈ rulesL t.flat p s.node k) := by
  obtain ⟨C, s, rfl, rfl⟩ := ctx_at t p hp
  obtain ⟨k, hk⟩ := sub_ty C h
  have e := rulesL_ctx hk
  refine ⟨C, s, k, rfl, rfl, ctx_get, ?_, hk, e, fun r => ⟨fun hm => ?_, fun hm => ?_⟩⟩
  · rw [kds_at, kOf_eq hk]
  · obtain ⟨C', s', e1, e2, hr⟩ := looks_ctx _ _ _ _ _ _ hm
    rw [Nat.zero_add] at e2
    rw [e, same_place h e1 e2]
    exact hr
  · rw [e] at hm
    have z := looks_of_ctx C (Γ := []) (p := 0) (h := false) hm
    rwa [Nat.zero_add] at z
/-- what a found step is -/
theorem step_stp {c : Nat} {k : Kd} {t : Tr} (g : Good c k t) (hc : c ≤ 4) (hs : t.size ≤ 40) {q : Nat} {r : Str} (hm : (q, r) ∈ looks [] 0 false t) :
    ∃ s rest s' kk, Stp t q s rest r s' (kds [] t) ∧ t.flat[q]? = some s.node ∧ (kds [] t)[q]? = some kk ∧ (rulesL t.flat q s.node kk).contains r = true ∧ (stepT [] 0 q r t).flat = t.flat.take q ++ s'.flat ++ rest ∧ StepOk [] 0 q r t := by
  obtain ⟨C, s, e0, rfl, hr, e1, g', _⟩ := g.step hc hs hm
  have hk0 := g.kind
  obtain ⟨k', hk⟩ := sub_ty C (by rw [← e0]; exact hk0)
  obtain ⟨rest, h1, h2, h3⟩ := drop_ctx C s
  have hf : (stepT [] 0 (offs C) r t).flat = t.flat.take (offs C) ++ (mkS r s (kOf (envs [] C) s)).flat ++ rest := by rw [e1, h2, e0, List.append_assoc]
  have hrl : rulesL t.flat (offs C) s.node k' = rulesT (envs [] C) (helds false C) s := by rw [e0]; exact rulesL_ctx hk
  refine ⟨s, rest, mkS r s (kOf (envs [] C) s), k', ⟨⟨by rw [e0]; exact h1, by rw [Tr.flat_len]; omega⟩, kinds_tree hk0 g.nodes, ?_, ?_⟩, by rw [e0]; exact ctx_get, by rw [e0, kds_at, kOf_eq hk], by rw [hrl]; exact List.contains_iff_mem.mpr hr, hf, ?_⟩
  · rcases rules_cases hr with ⟨a1, a2, t', a3, a4⟩ | ⟨a1, a2, a3, a4, a5⟩
    · exact .inl ⟨a1, by rw [a3, a4]⟩
    · refine .inr ⟨a1, k', by rw [e0, kds_at, kOf_eq hk], ?_, ?_⟩
      · rw [kOf_eq hk] at a2
        cases k' <;> first | exact ⟨_, rfl⟩ | cases a2
      · rw [a5, kOf_eq hk]
  · rw [← hf, Tr.flat_len]; exact g'.most
  · intro C' s' e2 e3
    rw [Nat.zero_add] at e3
    have hr' : r ∈ rulesT (envs [] C') (helds false C') s' := by
      rw [← same_place (by rw [← e0]; exact hk0) (e0.symm.trans e2) e3]; exact hr
    have hz : s'.deep ≤ 59 := by
      have z1 := deep_le s'
      obtain ⟨_, _, _, z3⟩ := drop_ctx C' s'
      rw [← e2] at z3
      omega
    rcases rules_cases hr' with ⟨a1, a2, t', a3, a4⟩ | ⟨a1, a2, a3, a4, a5⟩
    · exact ⟨.inr ⟨a2, by rw [a3]; rfl⟩, hz⟩
    · exact ⟨.inl ⟨a1, a2⟩, hz⟩
end K32

set_option maxRecDepth 100000
set_option maxHeartbeats 4000000
namespace K32
open PySem L2
/-! ## x in a list of steps -/
theorem eqv_step (a b : Nat × Str) : PyData.eqv (stepD a) (stepD b) = decide (a = b) := by
  obtain ⟨a1, a2⟩ := a
  obtain ⟨b1, b2⟩ := b
  show PyData.eqv (.tuple [.int a1, .str a2]) (.tuple [.int b1, .str b2]) = _
  simp only [PyData.eqv, eqvA_cons, eqvA_nil]
  rw [int_beq]
  have : (a2 == b2) = decide (a2 = b2) := Bool.beq_eq_decide_eq a2 b2
  rw [this]
  simp [Prod.mk.injEq]
theorem any_step (ys : List (Nat × Str)) (a : Nat × Str) : (ys.map stepD).any (fun z => PyData.eqv z (stepD a)) = ys.contains a := by
  induction ys with
  | nil => rfl
  | cons y ys ih =>
    rw [List.map_cons, List.any_cons, ih, eqv_step, List.contains_cons]
    congr 1
    rw [Bool.beq_eq_decide_eq]
    exact decide_eq_decide.mpr ⟨fun h => h.symm, fun h => h.symm⟩
theorem shaped_step {a : Nat × Str} (h : PyData.strOk a.2 = true) : SeqAt.shaped (stepD a) = true := by
  show ((PyData.tuple [.int a.1, .str a.2]).canLay0 && decide ((PyData.tuple [.int a.1, .str a.2]).depth ≤ 64)) = true
  simp only [PyData.canLay0, PyData.canLayAll0, PyData.depth, PyData.depthAll, h]
  rfl
theorem shaped_steps {ys : List (Nat × Str)} (h : ∀ a ∈ ys, PyData.strOk a.2 = true) : SeqAt.shaped (stepsD ys) = true := by
  have h1 : PyData.canLayAll0 (ys.map stepD) = true := by
    induction ys with
    | nil => exact layA_nil
    | cons y ys ih => exact layA_cons (SeqAt.canLay_of_shaped (shaped_step (h y List.mem_cons_self))) (ih fun a ha => h a (List.mem_cons_of_mem _ ha))
  have h2 : PyData.depthAll (ys.map stepD) ≤ 2 := dep_all ys fun a _ => by show (PyData.tuple [.int a.1, .str a.2]).depth ≤ 2; simp [PyData.depth, PyData.depthAll]
  show ((PyData.list (ys.map stepD)).canLay0 && decide ((PyData.list (ys.map stepD)).depth ≤ 64)) = true
  rw [lay_list h1, Bool.true_and]
  exact decide_eq_true (by simp only [PyData.depth]; omega)
theorem ok_ruleS : ∀ r ∈ ruleS, PyData.strOk r = true := by decide +kernel
theorem looks_ok {t : Tr} {k : Kd} (h : ty [] t = some k) {a : Nat × Str} (ha : a ∈ looks [] 0 false t) : ruleS.contains a.2 = true ∧ a.1 < t.size := by
  obtain ⟨q, r⟩ := a
  obtain ⟨C, s, e1, e2, hr⟩ := looks_ctx _ _ _ _ _ _ ha
  rw [Nat.zero_add] at e2
  subst e2
  obtain ⟨k', hk⟩ := sub_ty C (by rw [← e1]; exact h)
  refine ⟨rules_in (l := t.flat) (p := offs C) (n := s.node) (k := k') (by rw [e1]; exact ctx_get) (by rw [e1, rulesL_ctx hk]; exact List.contains_iff_mem.mpr hr), ?_⟩
  obtain ⟨_, _, _, z⟩ := drop_ctx C s
  have := s.size_pos
  show offs C < t.size
  rw [e1]; omega
section
variable {X : Cx} {O : Og} {M : Owns} {ρ : List Lo} {a b : Expr} {p1 p2 pos : Pos} {p : Addr}
theorem ed_inSteps {ys : List (Nat × Str)} {y : Nat × Str} (hu : Room64 X) (ha : Ed X O M ρ a (.d (stepD y))) (hb : Ed X O M ρ b (.d (stepsD ys))) (hy : PyData.strOk y.2 = true) (hys : ∀ a ∈ ys, PyData.strOk a.2 = true) (hm : behindInMarks .In b = false := by rfl) : Ed X O M ρ (.Compare a [.In] [b] pos) (.d (.bool (ys.contains y))) :=
  ed_cmp (op_inD (by have := hu; unfold Room64 at this; omega)) ha hb (fun B σ H S v w hv hw Q q => by
    refine ⟨stepD y, ys.map stepD, (Da.mono S.bh (show Da X.K B v _ from hv)).dp, (Da.mono S.bh (show Da X.K B w _ from hw)).dp, shaped_step hy, shaped_steps hys, ?_⟩
    rw [any_step]
    exact q _ B H (Same.refl _) S (.bl _)) hm
/-- a pick -/
theorem ev_pick {ds : List PyData} {m : Nat} (F : Def X.prog X.w X.K X.mg X.base CX0 "_law_pick" m ["_law_pot_here", "_law_some"] (spO X.K R_pick)) (hr : Room m X.A) (ha : Ed X O [(p, .pot)] ρ a (.v (.ref p))) (hb : Ed X O [(p, .pot)] ρ b (.d (.list ds))) (h1 : ds ≠ []) (h2 : ds.length ≤ 10000) (hg : Gl X "_law_pick" := by rfl)
    (he : starEach [a, b] X.env = (false, eval a X.env) :: starEach [b] X.env := by rfl) (he2 : starEach [b] X.env = (false, eval b X.env) :: starEach [] X.env := by rfl) (hpl : (backTo pos (starEach [b] X.env)).any (·.1) = false := by rfl) :
    Ev X O [(p, .pot)] ρ (.Call (.Name "_law_pick" p1) [a, b] [] pos) (fun l => ∃ d ∈ ds, l = .d d) :=
  Ex.ev (P := fun M' l => M' = [(p, .pot)] ∧ ∃ d ∈ ds, l = .d d) (ex_call F hr (ea_cons ha (ea_cons hb ea_nil he2) he).ac (fun M1 ls h => by
    obtain ⟨rfl, rfl⟩ := h
    refine ⟨[(p, .pot)], [], _, List.Perm.refl _, ⟨p, ds, rfl, rfl, h1, h2, rfl⟩, fun M' l h => ?_⟩
    rw [List.append_nil]
    exact h) hg (by decide) he hpl) fun M' l h => h
end
section
variable {P : Program} {w : World} {K : PySem.W.Frag} {mg : Str → Option Value} {base : Heap}
def R_lrefused : Owns → List Lo → Post → Prop := fun M ls Po => ∃ (p : Addr) (c : Nat) (k : Kd) (t : Tr) (ys : List (Nat × Str)), M = [(p, .pot)] ∧ ls = [.v (.ref p), .d (.list (encs t.flat)), .d (stepsD ys)] ∧ Good c k t ∧ c ≤ 4 ∧ t.size ≤ 40 ∧ ys.Perm (looks [] 0 false t) ∧ Po = fun M' l => M' = [(p, .pot)] ∧ l = .d (.bool true)
theorem d__law_is_refused_right (T : Tx w K mg) : Def P w K mg base CX0 "_law_is_refused_right" 14 ["_law_pot_here", "_law_term", "_law_steps_here"] (spO K R_lrefused) := by
  refine def_O (f__law_is_refused_right T) (g__law_is_refused_right T) sc__law_is_refused_right (fun _ _ _ _ _ _ us hl => match us, hl with | [_, _, _], _ => rfl) (fun M ls Po h => by obtain ⟨p, c, k, t, ys, rfl, rfl, hg, hc, hz, hys, rfl⟩ := h; rfl) fun cdv A outer s H E hr M ls Po h O D hD hq => ?_
  obtain ⟨p, c, k, t, ys, rfl, rfl, hg, hc, hz, hys, rfl⟩ := h
  have hfl := Tr.flat_len t
  have hpos := t.size_pos
  refine go_asg (l := .d (.list (ruleS.map .str))) 3 sc__law_is_refused_right.nd (ed_lst (ds := ruleS.map .str) (ea_cons ed_str (ea_cons ed_str (ea_cons ed_str (ea_cons ed_str (ea_cons ed_str (ea_cons ed_str (ea_cons ed_str (ea_cons ed_str ea_nil))))))))) ?_
  refine go_par2 4 5 (P := fun M' ls => M' = [(p, .pot)] ∧ ∃ q : Nat, q < t.size ∧ ∃ r ∈ ruleS, ls = [.d (.int q), .d (.str r)]) sc__law_is_refused_right.nd ?_ ?_
  · refine fun B σ H S Q q => (ac_v (ev_draw (n := t.size) ((d__law_draw T).up (by decide)) hr (ed_v 0) ((ed_lenL (b_len T) (ed_v 1)).is (by rw [encs_len, hfl])) (by omega) (by omega)) (ac_v (ev_pick (ds := ruleS.map .str) ((d__law_pick T).up (by decide)) hr (ed_v 0) (ed_v 3) (by simp [ruleS]) (by decide)) ac_nil)) B σ H S Q fun vs ls M' B' H' h => q vs ls M' B' H' ?_
    obtain ⟨l1, r1, rfl, ⟨i, hi, rfl⟩, l2, r2, rfl, ⟨d, hd, rfl⟩, rfl, rfl⟩ := h
    obtain ⟨r, hr', rfl⟩ := List.mem_map.mp hd
    exact ⟨rfl, i, hi, r, hr', rfl⟩
  rintro M' ls ⟨rfl, q, hq1, r, hr1, rfl⟩
  refine ⟨_, _, rfl, ?_⟩
  obtain ⟨C, s, kk, e1, e2, h1, h2, h3, h4, h5⟩ := looks_rules hg.kind hq1
  refine go_retX (Ed.ex (ed_eq hr.r64 (ed_callR (ds := [.list (encs t.flat), .int q, .str r]) ((d__law_is_made T).up (by decide)) hr (ea_cons (ed_v 1) (ea_cons (ed_v 4) (ea_cons (ed_v 5) ea_nil))) ⟨t, kds [] t, q, s.node, kk, r, rfl, prog_tree hg.kind hg.nodes hg.most, h1, h2, List.contains_iff_mem.mpr hr1, fun hm => ?_, rfl⟩)
    (ed_inSteps (ys := ys) (y := (q, r)) hr.r64 (ed_two (ed_v 4) (ed_v 5)) (ed_v 2) (ok_ruleS r hr1) fun a ha => ok_ruleS _ (List.contains_iff_mem.mp (looks_ok hg.kind (hys.subset ha)).1)) ⟨rfl, rfl, .inl (Nat.zero_le _)⟩)) (hq.imp fun M' l h => ?_)
  · have hm' := (h5 r).mpr (List.contains_iff_mem.mp hm)
    obtain ⟨s', rest, s2, k2, g1, g2, _⟩ := step_stp hg hc hz hm'
    exact ⟨s', rest, s2, g1, by rw [h1] at g2; exact (Option.some.inj g2).symm⟩
  · obtain ⟨rfl, rfl⟩ := h
    refine ⟨rfl, ?_⟩
    have : (rulesL t.flat q s.node kk).contains r = ys.contains (q, r) := by
      rw [Bool.eq_iff_iff, List.contains_iff_mem, List.contains_iff_mem, ← h5 r]
      exact ⟨fun z => hys.symm.subset z, fun z => hys.subset z⟩
    rw [this]
    show Lo.d (.bool (PyData.eqv (.bool _) (.bool _))) = _
    simp [PyData.eqv]
end
end K32

set_option maxRecDepth 100000
set_option maxHeartbeats 4000000
namespace K32
open PySem L2 PyProof.Rows
/-! ## A call by keywords alone -/
section
variable {X : Cx} {CX : CXT} {k : Nat} {f : Addr} {fd : FuncData} {ps ks : List Str} {sp : Sp} {E : XK} {x : Str} {p pos : Pos} {kws : List Keyword} {tk : TA} {g : List Value → List Value → List Value} {gV : List V → List V → List V}
theorem pe_callKW0 (F : FnOk X.prog X.w X.K X.mg X.base CX k f fd ps sp) (hr : Room k X.A) (hg : Gl X x) (hm : X.mg x = some (.ref f)) (hk : PySem.W.keepIn X.K (.ref f) = true) (hb : KBinds X.K fd ps ks g gV) (hx : Passes CX X E)
    (hkw : PK X kws tk) (hall : (backToKw pos (keywordEach kws X.env)).all (·.1.isSome) = true := by rfl) (hks : (backToKw pos (keywordEach kws X.env)).filterMap (·.1) = ks := by rfl)
    (hdb : (x == ("__debug__" : Str)) = false := by decide) (hpl : ((backTo pos (starEach [] X.env)).any (·.1) || (backToKw pos (keywordEach kws X.env)).any (·.1.isNone)) = false := by rfl) :
    PE X (.Call (.Name x p) [] kws pos) (fun σ H Q => tk σ H fun zs H2 => sp (gV [] zs) H2 Q E) := by
  refine ⟨fun pins s σ H Q I h => ?_⟩
  refine wpAny_Call_Name_kw (ld_glob I hg hm ?_ hdb)
  refine PySem.W.callWith_KW0 (h₀ := X.base) I.ok.mod.kin hk hall ?_ hpl
  refine L2.thn (hkw.run pos pins s σ H _ I h) fun ws s2 ⟨zs, H2, I2, rz, q2⟩ => ⟨I2.kIn, ?_⟩
  rw [hks]
  exact run_fnk F hr hb hx I2 .nil rz q2
end
structure DefKw (P : Program) (w : World) (K : PySem.W.Frag) (mg : Str → Option Value) (base : Heap) (CX : CXT) (x : Str) (k : Nat) (ps ks : List Str) (g : List Value → List Value → List Value) (gV : List V → List V → List V) (sp : Sp) : Prop where
  ex : ∃ f fd, FnOk P w K mg base CX k f fd ps sp ∧ mg x = some (.ref f) ∧ PySem.W.keepIn K (.ref f) = true ∧ KBinds K fd ps ks g gV
theorem DefKw.up {P : Program} {w : World} {K : PySem.W.Frag} {mg : Str → Option Value} {base : Heap} {CX : CXT} {x : Str} {k j : Nat} {ps ks : List Str} {g : List Value → List Value → List Value} {gV : List V → List V → List V} {sp : Sp} (D : DefKw P w K mg base CX x k ps ks g gV sp) (h : k ≤ j) : DefKw P w K mg base CX x j ps ks g gV sp := by
  obtain ⟨f, fd, F, a, b, c⟩ := D.ex
  exact ⟨f, fd, F.mono h, a, b, c⟩
/-- rule, program, position: in the parameters' order -/
def rpp {α : Type} (us ws : List α) : List α := match us, ws with
  | [], [r, p, q] => [p, q, r]
  | _, _ => []
theorem rpp_vals {vs zs : List V} {us ws : List Value} (h1 : Vals vs us) (h2 : Vals zs ws) : Vals (rpp vs zs) (rpp us ws) := by
  cases h1 with
  | cons _ _ => exact .nil
  | nil =>
    cases h2 with
    | nil => exact .nil
    | cons a h2 =>
      cases h2 with
      | nil => exact .nil
      | cons b h2 =>
        cases h2 with
        | nil => exact .nil
        | cons c h2 =>
          cases h2 with
          | nil => exact .cons b (.cons c (.cons a .nil))
          | cons _ _ => exact .nil
section
variable {P : Program} {w : World} {K : PySem.W.Frag} {mg : Str → Option Value} {base : Heap}
theorem kb_stepped {f : Addr} {fd : FuncData} (F : FunD K "stepped" "stepped" (defArgs s_stepped) (defBody s_stepped) (defScope s_stepped) [] [] f fd) : KBinds K fd ["program", "position", "rule"] ["rule", "program", "position"] rpp rpp := by
  obtain ⟨oc, od, dV, kV, doc, pm, an, cdv, ct, osl, rfl, lk, hcd, hD, hK⟩ := F.ex
  rcases hD with ⟨_, rfl⟩ | ⟨e, _⟩
  · refine ⟨fun s us ws X hl => ?_, rpp_vals⟩
    match us, ws, hl with
    | [], [r, p, q], _ => exact .of_eq rfl
    | [], [], hl => cases hl
    | [], [_], hl => cases hl
    | [], [_, _], hl => cases hl
    | [], _ :: _ :: _ :: _ :: _, hl => cases hl
    | _ :: _, [], hl => cases hl
    | _ :: _, _ :: _, hl => cases hl
  · exact absurd rfl e
theorem k_stepped (T : Tx w K mg) : DefKw P w K mg base CX0 "stepped" 12 ["program", "position", "rule"] ["rule", "program", "position"] rpp rpp (spL K R_stepped) := by
  obtain ⟨fd, F⟩ := f_stepped T
  refine ⟨_, fd, F.ok sc_stepped (fun vs H Q E h => ?_) fun cdv A outer s H vs Q E hr h => ?_, g_stepped T, F.kp, kb_stepped F⟩
  · obtain ⟨B, ds, d, _, h2, h3, _⟩ := h
    obtain ⟨e, t0, p, t, rest, rule, t', ks, k, rfl, _⟩ := h3
    rw [h2.length]; rfl
  · obtain ⟨B, ds, es, h1, h2, h3, h4⟩ := h
    refine ⟨wSs (cxD P w K mg base "stepped" s_stepped N_stepped _ cdv A outer s H E) (defBody s_stepped), PSs.nox pss_w, ?_⟩
    refine b_stepped T cdv A outer s H E hr ds es h3 ⟨B, H, [], B⟩ _ rfl (fun B' H' a M ρ σ S' hO => ?_) B _ H ⟨Nx.refl h1, Same.refl _, fun p hp => by simp at hp, .nil, ?_⟩
    · obtain ⟨g1, ⟨o, g2, xs, rfl, g3⟩, _⟩ := S'.own _ List.mem_cons_self
      exact h4 a xs B' H' S'.nx hO g1 g2 (Los.da g3)
    · have z := sls_start (N := N_stepped) (Los.of_da h2)
      rw [List.length_map] at z
      exact z
end
section
variable {X : Cx} {O : Og} {M : Owns} {ρ : List Lo} {p1 pos : Pos}
theorem el_callK3 {x : Str} {k : Nat} {ps ks : List Str} {g : List Value → List Value → List Value} {gV : List V → List V → List V} {R : List PyData → List PyData → Prop} {e1 e2 e3 : Expr} {n1 n2 n3 : Str} {q1 q2 q3 : Pos} {d1 d2 d3 : PyData} {ds fs : List PyData}
    (F : DefKw X.prog X.w X.K X.mg X.base CX0 x k ps ks g gV (spL X.K R)) (hr : Room k X.A) (h1 : Ed X O M ρ e1 (.d d1)) (h2 : Ed X O M ρ e2 (.d d2)) (h3 : Ed X O M ρ e3 (.d d3))
    (hgv : ∀ B v1 v2 v3, Da X.K B v1 d1 → Da X.K B v2 d2 → Da X.K B v3 d3 → DaAll X.K B (gV [] [v1, v2, v3]) ds) (h : R ds fs)
    (hg : Gl X x := by rfl) (hall : (backToKw pos (keywordEach [⟨some n1, e1, q1⟩, ⟨some n2, e2, q2⟩, ⟨some n3, e3, q3⟩] X.env)).all (·.1.isSome) = true := by rfl) (hks : (backToKw pos (keywordEach [⟨some n1, e1, q1⟩, ⟨some n2, e2, q2⟩, ⟨some n3, e3, q3⟩] X.env)).filterMap (·.1) = ks := by rfl)
    (hdb : (x == ("__debug__" : Str)) = false := by decide) (hpl : ((backTo pos (starEach [] X.env)).any (·.1) || (backToKw pos (keywordEach [⟨some n1, e1, q1⟩, ⟨some n2, e2, q2⟩, ⟨some n3, e3, q3⟩] X.env)).any (·.1.isNone)) = false := by rfl) :
    El X O M ρ (.Call (.Name x p1) [] [⟨some n1, e1, q1⟩, ⟨some n2, e2, q2⟩, ⟨some n3, e3, q3⟩] pos) (fs.map .d) := fun B σ H S Q q => by
  obtain ⟨f, fd, F, hm, hk, hb⟩ := F.ex
  refine wE_of (pe_callKW0 F hr hg hm hk hb pass0 (pk_cons pe_w (pk_cons pe_w (pk_cons pe_w pk_nil))) hall hks hdb hpl) (h1 B σ H S _ fun v1 B1 H1 g1 S1 r1 => h2 B1 σ H1 S1 _ fun v2 B2 H2 g2 S2 r2 => h3 B2 σ H2 S2 _ fun v3 B3 H3 g3 S3 r3 => ?_)
  show spL X.K R (gV [] [v1, v2, v3]) H3 Q E0
  have r1 : Da X.K B1 v1 d1 := r1
  have r2 : Da X.K B2 v2 d2 := r2
  refine ⟨B3, ds, fs, S3.bh, hgv B3 v1 v2 v3 ((r1.mono g2).mono g3) (r2.mono g3) r3, h, fun p xs B4 H4 n h1 h2 h3 r => ?_⟩
  have S4 := S3.step n
  refine q p B4 H4 (S3.fresh h1) (((g1.trans g2).trans g3).trans n.bb) ⟨S4.nx, S4.lb, fun z hz => ?_, ?_, S4.sl⟩
  · rcases List.mem_cons.mp hz with rfl | hz
    · exact ⟨h2, ⟨_, h3, xs, rfl, Los.of_da r⟩, .inr (S3.fresh h1)⟩
    · exact S4.own z hz
  · show (p :: M.map (·.1)).Nodup
    refine List.nodup_cons.mpr ⟨fun hm => ?_, S4.nd⟩
    obtain ⟨z, hz, ez⟩ := List.mem_map.mp hm
    obtain ⟨_, ⟨u, g2, _⟩, _⟩ := S3.own z hz
    rw [ez, h1] at g2
    cases g2
end
end K32

set_option maxRecDepth 100000
set_option maxHeartbeats 4000000
namespace K32
open PySem L2 PyProof.Rows
/-! ## Defs whose promise asks more of what is around: no text of a list is under way (repr asks for it) -/
structure FnOkA (Φ : Around → Prop) (P : Program) (w : World) (K : PySem.W.Frag) (mg : Str → Option Value) (base : Heap) (k : Nat) (f : Addr) (fd : FuncData) (ps : List Str) (sp : Sp) : Prop where
  len : ∀ vs H Q E, sp vs H Q E → vs.length = ps.length
  run : ∀ (A : Around) (outer : List Env) (s : Shared) (H : Hp) (us : List Value) (vs : List V) (Q : VK), Φ A → Room k A → Env0 P w K mg base A outer s H → BindsTo s fd ⟨us, []⟩ (ps.zip us) → Vals vs us → sp vs H Q E0 →
    codeAny (model P w) A (.call (.ref f) ⟨us, []⟩) (CR CX0 outer P w H s Q E0) s
section
variable {P : Program} {w : World} {K : PySem.W.Frag} {mg : Str → Option Value} {base : Heap} {x : Str} {st : Stmt} {N ps : List Str} {f : Addr} {fd : FuncData} {k : Nat} {sp : Sp} {Φ : Around → Prop}
theorem fnA (F : FunD K x x (defArgs st) (defBody st) (defScope st) [] [] f fd) (S : FnScope N ps (defScope st)) (len : ∀ vs H Q E, sp vs H Q E → vs.length = ps.length)
    (body : ∀ (cdv : Value) (A : Around) (outer : List Env) (s : Shared) (H : Hp) (vs : List V) (Q : VK), Φ A → Room k (A.deeper (envOfC x (defScope st) s.heap.objs.size f cdv)) → sp vs H Q E0 →
      wSs (cxD P w K mg base x st N f cdv A outer s H E0) (defBody st) { nx := fun _ H' => Q .non H', rt := Q } (L2.start N vs) H) : FnOkA Φ P w K mg base (k + 1) f fd ps sp := by
  obtain ⟨oc, od, dV, kV, doc, pm, an, cdv, ct, osl, rfl, lk, hcd, _, _⟩ := F.ex
  refine ⟨len, fun A outer s H us vs Q hΦ hr e0 hb r hsp => ?_⟩
  have keep : ∀ b o, base.get? b = some o → s.heap.get? b = some o := fun b o e => (e0.bs b o e).1
  have KX : K.In s.heap := e0.mod.kin.keeps keep
  refine codeAny_call_function hr.depth (KX _ _ lk) rfl S.co S.gen rfl (PySem.W.codeRec_of KX hcd) (hb _ _ _ _ ?_)
  refine wpAny_newFunctionEnv_cells S.kind (fun y hy => ?_) fun env he s1 i => ?_
  · rcases S.par y.1 (List.of_mem_zip (show (y.1, y.2) ∈ ps.zip us from hy)).1 with q | q
    · exact .inl q
    · exact .inr ⟨q, PySem.W.cellsFrom_some _ _ _ (.inl q)⟩
  · subst he
    refine ⟨(e0.mod.nolimit.keeps keep).keeps i.toInCall.keep, codeAny_func ?_⟩
    have I := inv_start (CX := CX0) (E := E0) S hr.hd e0 (len _ _ _ _ hsp) r i
    refine wpAny_mono ((PSs.nox pss_w).run [] s1 _ H _ I (body cdv A outer s H vs Q hΦ (hr.deeper _) hsp)) (fun fl s' hs => ?_) fun e s' hs => hs
    cases fl with
    | next => obtain ⟨σ', H', J, q⟩ := hs; exact ⟨.non, H', J.os, J.bare, J.base, J.hok, rfl, q⟩
    | ret u => obtain ⟨v, σ', H', J, rv, q⟩ := hs; exact ⟨v, H', J.os, J.bare, J.base, J.hok, rv, q⟩
    | brk => obtain ⟨_, _, _, q⟩ := hs; exact False.elim q
    | cont => obtain ⟨_, _, _, q⟩ := hs; exact False.elim q
/-- a def of the module -/
structure DefA (Φ : Around → Prop) (P : Program) (w : World) (K : PySem.W.Frag) (mg : Str → Option Value) (base : Heap) (x : Str) (k : Nat) (ps : List Str) (sp : Sp) : Prop where
  ex : ∃ f fd, FnOkA Φ P w K mg base k f fd ps sp ∧ mg x = some (.ref f) ∧ PySem.W.keepIn K (.ref f) = true ∧ Binds K fd ps []
theorem def_OA {R : Owns → List Lo → Post → Prop} (F : ∃ fd, FunD K x x (defArgs st) (defBody st) (defScope st) [] [] f fd) (hm : mg x = some (.ref f)) (S : FnScope N ps (defScope st))
    (hb : ∀ (kV doc pm : Value) (an : Option Addr) (cdv ct : Value) (us : List Value), us.length = ps.length → bindArgs (PySem.W.fnOf x x (defArgs st) (defBody st) (defScope st) .none kV doc pm an cdv ct) ⟨us, []⟩ = pure (ps.zip us))
    (hlen : ∀ M ls Po, R M ls Po → ls.length = ps.length)
    (body : ∀ (cdv : Value) (A : Around) (outer : List Env) (s : Shared) (H : Hp), Φ A → Room k (A.deeper (envOfC x (defScope st) s.heap.objs.size f cdv)) → ∀ M ls Po, R M ls Po → ∀ (O : Og) (D : Ends), D.nx = (fun _ H' => D.rt .non H') → (∀ L, RetO K (O.low L) D Po) →
      Go (cxD P w K mg base x st N f cdv A outer s H E0) O M (at1 N ls) D (defBody st)) : DefA Φ P w K mg base x (k + 1) ps (spO K R) := by
  obtain ⟨fd, F⟩ := F
  refine ⟨f, fd, fnA F S (fun vs H Q E h => ?_) fun cdv A outer s H vs Q hΦ hr h => ?_, hm, F.kp, F.bindsN hb⟩
  · obtain ⟨B, M, ls, Po, _, _, _, h2, h3, _⟩ := h
    rw [Paired.len h2, hlen _ _ _ h3]
  · obtain ⟨B, M, ls, Po, h1, h2, h3, h4, h5, h6⟩ := h
    refine body cdv A outer s H hΦ hr M ls Po h5 ⟨B, H, M.map (·.1), B⟩ _ rfl (fun L B' H' M' ρ σ v l S' r z => ?_) B _ H ⟨Nx.refl h1, Same.refl _, fun p hp => ⟨(h2 p hp).1, (h2 p hp).2, .inl (List.mem_map_of_mem hp)⟩, h3, sls_start h4⟩
    exact h6 v l B' H' M' S'.nx S'.ownAll S'.nd (fun p hp => (S'.own p hp).2.2) r z
end
section
variable {X : Cx} {k : Nat} {f : Addr} {fd : FuncData} {ps : List Str} {sp : Sp} {x : Str} {p pos : Pos} {e : Expr} {es : List Expr} {t : TA} {Φ : Around → Prop}
theorem pe_callA (F : FnOkA Φ X.prog X.w X.K X.mg X.base k f fd ps sp) (hΦ : Φ X.A) (hr : Room k X.A) (hg : Gl X x) (hm : X.mg x = some (.ref f)) (hk : PySem.W.keepIn X.K (.ref f) = true) (hb : Binds X.K fd ps [])
    (ha : PA X (e :: es) t) (hdb : (x == ("__debug__" : Str)) = false := by decide) (he : starEach (e :: es) X.env = (false, eval e X.env) :: starEach es X.env := by rfl) (hpl : (backTo pos (starEach es X.env)).any (·.1) = false := by rfl) :
    PE X (.Call (.Name x p) (e :: es) [] pos) (fun σ H Q => t σ H fun vs H1 => sp vs H1 Q E0) := by
  refine ⟨fun pins s σ H Q I h => wpAny_Call_Name_kw (ld_glob I hg hm (PySem.W.callWith_K (h₀ := X.base) I.ok.mod.kin hk (L2.thn (ha.run pos pins s σ H _ I h) fun us s1 ⟨vs, H1, I1, r, q⟩ => ⟨I1.kIn, ?_⟩) he hpl) hdb)⟩
  have hl : us.length = ps.length := by rw [← r.length]; exact F.len _ _ _ _ q
  have b := hb s1 us I1.kIn (by rw [List.append_nil]; exact hl)
  rw [List.append_nil] at b
  refine wpAny_call (codeAny_mono (F.run X.A X.stack s1 H1 us vs Q hΦ hr I1.env0 b r q) fun r s' hq => ?_)
  match r, hq with
  | .error e, hq => exact False.elim hq
  | .ok (.ret u), hq => exact I1.after hq
  | .ok .next, hq => exact False.elim hq
  | .ok .brk, hq => exact False.elim hq
  | .ok .cont, hq => exact False.elim hq
end
section
variable {X : Cx} {O : Og} {M : Owns} {ρ : List Lo} {a e : Expr} {es : List Expr} {p1 pos : Pos} {P : Post} {Φ : Around → Prop}
theorem ex_callA {x : Str} {k : Nat} {ps : List Str} {R : Owns → List Lo → Post → Prop} {PA : Owns → List Lo → Prop} (F : DefA Φ X.prog X.w X.K X.mg X.base x k ps (spO X.K R)) (hΦ : Φ X.A) (hr : Room k X.A) (ha : Ac X O M ρ (e :: es) PA)
    (h : ∀ M1 ls, PA M1 ls → ∃ Mx Mr P1, M1.Perm (Mx ++ Mr) ∧ R Mx ls P1 ∧ ∀ M' l, P1 M' l → P (M' ++ Mr) l)
    (hg : Gl X x := by rfl) (hdb : (x == ("__debug__" : Str)) = false := by decide) (he : starEach (e :: es) X.env = (false, eval e X.env) :: starEach es X.env := by rfl)
    (hpl : (backTo pos (starEach es X.env)).any (·.1) = false := by rfl) : Ex X O M ρ (.Call (.Name x p1) (e :: es) [] pos) P := fun B σ H S Q q => by
  obtain ⟨f, fd, F, hm, hk, hb⟩ := F.ex
  refine wE_of (pe_callA F hΦ hr hg hm hk hb pa_w hdb he hpl) (ha B σ H S _ fun vs ls M1 B1 H1 hp e1 S1 r1 => ?_)
  show spO X.K R vs H1 Q E0
  obtain ⟨Mx, Mr, P1, hM, hR, hP⟩ := h M1 ls hp
  have S2 := S1.perm hM
  refine ⟨B1, Mx, ls, P1, S1.bh, fun p hp => S2.ownAll p (List.mem_append_left _ hp), ?_, r1, hR, fun v l B' H' M' n ho hn hf r hp1 => ?_⟩
  · have z := S2.nd
    rw [List.map_append] at z
    exact (List.nodup_append.mp z).1
  · exact q v l (M' ++ Mr) B' H' (hP M' l hp1) (e1.trans n.bb) (S2.after n ho hn hf) r
end
end K32

/-! # How long a row's text is -/
namespace K32
open PySem
theorem sh_tup (xs : List PyData) : (PyData.tuple xs).shown.length ≤ piled (PyData.shownAll xs) + 3 := by
  show (tupleText (PyData.shownAll xs)).length ≤ _
  generalize PyData.shownAll xs = ts
  unfold tupleText
  rw [strLen_append, strLen_append]
  have e1 : ((("(" : String) : Str)).length = 1 := rfl
  have e2 : (((if ts.length == 1 then ",)" else ")" : String) : Str)).length ≤ 2 := by split <;> decide
  have e3 : (Str.join ", " ts).length ≤ piled ts := by
    by_cases h : ts = []
    · subst h; exact Nat.le_refl _
    · have := join_length_add ts h
      omega
  omega
theorem textFrom_le : ∀ (ts : List Str) (k : Nat) (acc : Str), (textFrom k acc ts).length ≤ acc.length + piled ts
  | [], k, acc => Nat.le_refl _
  | t :: r, k, acc => by
    have h := textFrom_le r (k + 1) (acc ++ (if k > 0 then ", " else "" : String) ++ t)
    rw [strLen_append, strLen_append] at h
    have e : (((if k > 0 then ", " else "" : String)) : Str).length ≤ 2 := by split <;> decide
    show (textFrom (k + 1) _ r).length ≤ _
    rw [piled_cons]
    omega
theorem sh_lst (xs : List PyData) : (PyData.list xs).shown.length ≤ piled (PyData.shownAll xs) + 2 := by
  show (listText (PyData.shownAll xs)).length ≤ _
  unfold listText
  rw [strLen_append]
  have := textFrom_le (PyData.shownAll xs) 0 "["
  have e1 : ((("[" : String) : Str)).length = 1 := rfl
  have e2 : ((("]" : String) : Str)).length = 1 := rfl
  omega
theorem piled_all {α : Type} {f : α → PyData} {b : Nat} : ∀ l : List α, (∀ x ∈ l, (f x).shown.length ≤ b) → piled (PyData.shownAll (l.map f)) ≤ l.length * (b + 2)
  | [], _ => Nat.zero_le _
  | x :: l, h => by
    have h1 := h x List.mem_cons_self
    have h2 := piled_all l fun y hy => h y (List.mem_cons_of_mem _ hy)
    show piled ((f x).shown :: PyData.shownAll (l.map f)) ≤ (l.length + 1) * (b + 2)
    rw [piled_cons, Nat.add_mul]
    omega
theorem sh_int {i k : Nat} (hk : 0 < k) (h : i < 10 ^ k) : (PyData.int i).shown.length ≤ k + 1 := by
  have z := int_text_length_le10 (a := (i : Int)) hk (by simpa using h)
  show (Str.ofString (toString (i : Int))).length ≤ k + 1
  exact Nat.le_trans (Nat.le_of_eq (ofString_length _)) z
theorem sh_kd : ∀ k : Kd, k.lets = true → k.enc.shown.length ≤ 40 * k.signs
  | .let_ i, h => by
    have h1 := sh_int (i := i) (k := 1) (by decide) (by have : decide (i ≤ 5) = true := h; simp at this; omega)
    have z := sh_tup [.str "letter", .int i]
    have e : piled (PyData.shownAll [.str "letter", .int i]) = ((PyData.str "letter").shown.length + 2) + (((PyData.int i).shown.length + 2) + 0) := by simp only [PyData.shownAll]; rw [piled_cons, piled_cons]; rfl
    have e1 : (PyData.str "letter").shown.length = 8 := by decide +kernel
    show (PyData.tuple [.str "letter", .int i]).shown.length ≤ 40 * 1
    omega
  | .cnt, h => by
    show (PyData.tuple [.str "count"]).shown.length ≤ 40 * 1
    decide +kernel
  | .pr a b, h => by
    have hh : (a.lets && b.lets) = true := h
    rw [Bool.and_eq_true] at hh
    have h1 := sh_kd a hh.1
    have h2 := sh_kd b hh.2
    have z := sh_tup [.str "pair", a.enc, b.enc]
    have e : piled (PyData.shownAll [.str "pair", a.enc, b.enc]) = ((PyData.str "pair").shown.length + 2) + ((a.enc.shown.length + 2) + ((b.enc.shown.length + 2) + 0)) := by simp only [PyData.shownAll]; rw [piled_cons, piled_cons, piled_cons]; rfl
    have e1 : (PyData.str "pair").shown.length = 6 := by decide +kernel
    show (PyData.tuple [.str "pair", a.enc, b.enc]).shown.length ≤ 40 * (1 + a.signs + b.signs)
    omega
  | .sm a b, h => by
    have hh : (a.lets && b.lets) = true := h
    rw [Bool.and_eq_true] at hh
    have h1 := sh_kd a hh.1
    have h2 := sh_kd b hh.2
    have z := sh_tup [.str "sum", a.enc, b.enc]
    have e : piled (PyData.shownAll [.str "sum", a.enc, b.enc]) = ((PyData.str "sum").shown.length + 2) + ((a.enc.shown.length + 2) + ((b.enc.shown.length + 2) + 0)) := by simp only [PyData.shownAll]; rw [piled_cons, piled_cons, piled_cons]; rfl
    have e1 : (PyData.str "sum").shown.length = 5 := by decide +kernel
    show (PyData.tuple [.str "sum", a.enc, b.enc]).shown.length ≤ 40 * (1 + a.signs + b.signs)
    omega
  | .fn a b, h => by
    have hh : (a.lets && b.lets) = true := h
    rw [Bool.and_eq_true] at hh
    have h1 := sh_kd a hh.1
    have h2 := sh_kd b hh.2
    have z := sh_tup [.str "fun", a.enc, b.enc]
    have e : piled (PyData.shownAll [.str "fun", a.enc, b.enc]) = ((PyData.str "fun").shown.length + 2) + ((a.enc.shown.length + 2) + ((b.enc.shown.length + 2) + 0)) := by simp only [PyData.shownAll]; rw [piled_cons, piled_cons, piled_cons]; rfl
    have e1 : (PyData.str "fun").shown.length = 5 := by decide +kernel
    show (PyData.tuple [.str "fun", a.enc, b.enc]).shown.length ≤ 40 * (1 + a.signs + b.signs)
    omega
end K32

namespace K32
open PySem
theorem sh_kdN {A : Kd} {x : Str} (h : A.ok = true) (hx : (PyData.str x).shown.length ≤ 10) : (PyData.tuple [.str x, A.enc]).shown.length ≤ 2500 := by
  unfold Kd.ok at h
  simp only [Bool.and_eq_true, decide_eq_true_eq] at h
  have h1 := sh_kd A h.1.1
  have z := sh_tup [.str x, A.enc]
  have e : piled (PyData.shownAll [.str x, A.enc]) = ((PyData.str x).shown.length + 2) + ((A.enc.shown.length + 2) + 0) := by simp only [PyData.shownAll]; rw [piled_cons, piled_cons]; rfl
  omega
theorem sh_intN {i : Nat} {x : Str} (h : i ≤ 1000000) (hx : (PyData.str x).shown.length ≤ 10) : (PyData.tuple [.str x, .int i]).shown.length ≤ 2500 := by
  have h1 := sh_int (i := i) (k := 7) (by decide) (by omega)
  have z := sh_tup [.str x, .int i]
  have e : piled (PyData.shownAll [.str x, .int i]) = ((PyData.str x).shown.length + 2) + (((PyData.int i).shown.length + 2) + 0) := by simp only [PyData.shownAll]; rw [piled_cons, piled_cons]; rfl
  omega
theorem sh_nd (n : Nd) (h : n.ok = true) : n.enc.shown.length ≤ 2500 := by
  cases n with
  | name i => exact sh_intN (by have : decide (i ≤ 299) = true := h; simp at this; omega) (by decide +kernel)
  | told i => exact sh_intN (by have : decide (i ≤ 1000000) = true := h; simpa using this) (by decide +kernel)
  | fn A => exact sh_kdN h (by decide +kernel)
  | left A => exact sh_kdN h (by decide +kernel)
  | right A => exact sh_kdN h (by decide +kernel)
  | turns A => exact sh_kdN h (by decide +kernel)
  | call => exact (by decide +kernel : Nd.call.enc.shown.length ≤ 2500)
  | both => exact (by decide +kernel : Nd.both.enc.shown.length ≤ 2500)
  | first => exact (by decide +kernel : Nd.first.enc.shown.length ≤ 2500)
  | second => exact (by decide +kernel : Nd.second.enc.shown.length ≤ 2500)
  | which => exact (by decide +kernel : Nd.which.enc.shown.length ≤ 2500)
  | next => exact (by decide +kernel : Nd.next.enc.shown.length ≤ 2500)
  | lt => exact (by decide +kernel : Nd.lt.enc.shown.length ≤ 2500)
theorem sh_row {l : List Nd} (h : ∀ n ∈ l, n.ok = true) (hl : l.length ≤ 300) : (PyData.list (encs l)).shown.length ≤ sizeLine := by
  have h1 := sh_lst (encs l)
  have h2 : piled (PyData.shownAll (encs l)) ≤ l.length * (2500 + 2) := piled_all l fun n hn => sh_nd n (h n hn)
  have h3 : l.length * (2500 + 2) ≤ 300 * 2502 := Nat.mul_le_mul_right _ hl
  rw [sizeLine_eq]
  omega
theorem log_small {i : Nat} (h : i ≤ 1000000) : decide ((i : Int).natAbs.log2 < 1920) = true := by
  rw [Int.natAbs_natCast]
  refine decide_eq_true ?_
  by_cases hi : i = 0
  · subst hi; decide
  · exact (Nat.log2_lt hi).mpr (Nat.lt_of_le_of_lt h (Nat.lt_of_lt_of_le (by decide : 1000000 < 2 ^ 20) (Nat.pow_le_pow_right (by decide) (by decide))))
theorem sw_kd : ∀ k : Kd, k.lets = true → k.enc.showable = true
  | .let_ i, h => by
    have : decide (i ≤ 5) = true := h
    simp at this
    have z := log_small (i := i) (by omega)
    simp only [Kd.enc, PyData.showable, PyData.showableAll, z]; rfl
  | .cnt, h => rfl
  | .pr a b, h => by
    have hh : (a.lets && b.lets) = true := h
    rw [Bool.and_eq_true] at hh
    simp only [Kd.enc, PyData.showable, PyData.showableAll, sw_kd a hh.1, sw_kd b hh.2]; rfl
  | .sm a b, h => by
    have hh : (a.lets && b.lets) = true := h
    rw [Bool.and_eq_true] at hh
    simp only [Kd.enc, PyData.showable, PyData.showableAll, sw_kd a hh.1, sw_kd b hh.2]; rfl
  | .fn a b, h => by
    have hh : (a.lets && b.lets) = true := h
    rw [Bool.and_eq_true] at hh
    simp only [Kd.enc, PyData.showable, PyData.showableAll, sw_kd a hh.1, sw_kd b hh.2]; rfl
theorem sw_nd (n : Nd) (h : n.ok = true) : n.enc.showable = true := by
  have kd : ∀ {A : Kd} {x : Str}, A.ok = true → (PyData.tuple [.str x, A.enc]).showable = true := fun {A x} h => by
    unfold Kd.ok at h
    simp only [Bool.and_eq_true, decide_eq_true_eq] at h
    simp only [PyData.showable, PyData.showableAll, sw_kd A h.1.1]; rfl
  cases n with
  | name i => have z := log_small (i := i) (by have : decide (i ≤ 299) = true := h; simp at this; omega); simp only [Nd.enc, PyData.showable, PyData.showableAll, z]; rfl
  | told i => have z := log_small (i := i) (by have : decide (i ≤ 1000000) = true := h; simpa using this); simp only [Nd.enc, PyData.showable, PyData.showableAll, z]; rfl
  | fn A => exact kd h
  | left A => exact kd h
  | right A => exact kd h
  | turns A => exact kd h
  | _ => rfl
theorem sw_row : ∀ {l : List Nd}, (∀ n ∈ l, n.ok = true) → (PyData.list (encs l)).showable = true := fun {l} h => by
  show PyData.showableAll (encs l) = true
  induction l with
  | nil => rfl
  | cons n l ih =>
    show (n.enc.showable && PyData.showableAll (encs l)) = true
    rw [sw_nd n (h n List.mem_cons_self), ih fun m hm => h m (List.mem_cons_of_mem _ hm)]; rfl
theorem nd_kd : ∀ k : Kd, k.enc.hasDict = false
  | .let_ i => rfl
  | .cnt => rfl
  | .pr a b => by simp only [Kd.enc, PyData.hasDict, PyData.hasDictAll, nd_kd a, nd_kd b]; rfl
  | .sm a b => by simp only [Kd.enc, PyData.hasDict, PyData.hasDictAll, nd_kd a, nd_kd b]; rfl
  | .fn a b => by simp only [Kd.enc, PyData.hasDict, PyData.hasDictAll, nd_kd a, nd_kd b]; rfl
theorem nd_nd (n : Nd) : n.enc.hasDict = false := by
  cases n <;> simp only [Nd.enc, PyData.hasDict, PyData.hasDictAll, nd_kd] <;> rfl
theorem nd_row : ∀ l : List Nd, (PyData.list (encs l)).hasDict = false := fun l => by
  show PyData.hasDictAll (encs l) = false
  induction l with
  | nil => rfl
  | cons n l ih =>
    show (n.enc.hasDict || PyData.hasDictAll (encs l)) = false
    rw [nd_nd, ih]; rfl
theorem dep_nd (n : Nd) (h : n.ok = true) : n.enc.depth ≤ 14 := by
  have kd : ∀ {A : Kd} {x : Str}, A.ok = true → (PyData.tuple [.str x, A.enc]).depth ≤ 14 := fun {A x} h => by
    unfold Kd.ok at h
    simp only [Bool.and_eq_true, decide_eq_true_eq] at h
    have := A.dep
    simp only [PyData.depth, PyData.depthAll]; omega
  cases n with
  | fn A => exact kd h
  | left A => exact kd h
  | right A => exact kd h
  | turns A => exact kd h
  | _ => simp [Nd.enc, PyData.depth, PyData.depthAll]
theorem dep_row {l : List Nd} (h : ∀ n ∈ l, n.ok = true) : (PyData.list (encs l)).depth ≤ 15 := by
  have z : PyData.depthAll (encs l) ≤ 14 := dep_all l fun n hn => dep_nd n (h n hn)
  simp only [PyData.depth]; omega
end K32

set_option maxRecDepth 100000
set_option maxHeartbeats 4000000
namespace K32
open PySem L2 PyProof.Rows
/-! ## repr of a row -/
theorem call_reprD {X : Cx} (hg : X.A.guards = some []) (hu : Room64 X) : CallR X (.builtin "repr") (fun xs H Q => ∃ a d, xs = [.ref a] ∧ Dp X.K H (.ref a) d ∧ d.showable = true ∧ d.hasDict = false ∧ d.depth ≤ 20 ∧ d.shown.length ≤ sizeLine ∧ Q (.str d.shown) H) := by
  intro pins s σ H xs us Q I r h
  obtain ⟨a, d, rfl, hd, h1, h2, h3, h4, q⟩ := h
  cases r with
  | cons ru rn =>
    cases rn
    cases ru
    obtain ⟨as, rd⟩ := Dp.reads I d (.ref a) (.ref a) hd rfl
    refine repr_of_reads' rd h1 (PyData.noDict_hsm h2) hg (by have := hu; unfold Room64 at this; omega) (fun _ _ e => e) (fun h' u tk hk => ?_) h4
    exact ⟨.str d.shown, H, I.kept (t' := tk) hk, ⟨u, rfl⟩, q⟩
mutual
def noL : PyData → Bool
  | .none => true
  | .bool _ => true
  | .int _ => true
  | .str _ => true
  | .tuple ds => noLs ds
  | .list _ => false
  | .dict _ => false
def noLs : List PyData → Bool
  | [] => true
  | d :: ds => noL d && noLs ds
end
theorem noL_kd : ∀ k : Kd, noL k.enc = true
  | .let_ i => rfl
  | .cnt => rfl
  | .pr a b => by simp only [Kd.enc, noL, noLs, noL_kd a, noL_kd b]; rfl
  | .sm a b => by simp only [Kd.enc, noL, noLs, noL_kd a, noL_kd b]; rfl
  | .fn a b => by simp only [Kd.enc, noL, noLs, noL_kd a, noL_kd b]; rfl
mutual
theorem Da.off {K : PySem.W.Frag} {B B' : Hp} (hB : ∀ a xs, SqT K B a xs → SqT K B' a xs) : ∀ {d : PyData} {v : V}, noL d = true → Da K B v d → Da K B' v d
  | .none, _, _, h => by cases h; exact .non
  | .bool _, _, _, h => by cases h; exact .bl _
  | .int _, _, _, h => by cases h; exact .int _
  | .str _, _, _, h => by cases h; exact .str _
  | .list ds, _, q, h => by simp only [noL] at q; cases q
  | .tuple ds, _, q, h => by
    cases h with
    | tup h1 h2 => exact .tup (hB _ _ h1) (DaAll.off hB (by simpa only [noL] using q) h2)
  | .dict _, _, _, h => by cases h
theorem DaAll.off {K : PySem.W.Frag} {B B' : Hp} (hB : ∀ a xs, SqT K B a xs → SqT K B' a xs) : ∀ {ds : List PyData} {vs : List V}, noLs ds = true → DaAll K B vs ds → DaAll K B' vs ds
  | [], _, _, h => by cases h; exact .nil
  | _ :: _, _, q, h => by
    simp only [noLs, Bool.and_eq_true] at q
    cases h with
    | cons h1 h2 => exact .cons (Da.off hB q.1 h1) (DaAll.off hB q.2 h2)
end
section
variable {X : Cx} {O : Og} {M : Owns} {ρ : List Lo} {a e : Expr} {p1 pos : Pos} {p : Addr}
def RowOk (l : List Nd) : Prop := (∀ n ∈ l, n.ok = true) ∧ l.length ≤ 300
theorem ed_repr {l : List Nd} (hgd : X.A.guards = some []) (hu : Room64 X) (hl : RowOk l) (hm : X.mg "repr" = none) (ha : Ed X O M ρ a (.d (.list (encs l)))) (hg : Gl X "repr" := by rfl) (hs : starEach [a] X.env = (false, eval a X.env) :: starEach [] X.env := by rfl) (hpl : (backTo pos (starEach [] X.env)).any (·.1) = false := by rfl) : Ed X O M ρ (.Call (.Name "repr" p1) [a] [] pos) (.d (.str (PyData.list (encs l)).shown)) :=
  ed_callB (call_reprD hgd hu) hm (ea_cons ha ea_nil hs) (fun B σ H S vs r Q q => by
    cases r with
    | cons r1 r2 =>
      cases r2
      have r1 : Da X.K B _ (.list (encs l)) := r1
      cases r1 with
      | lst h1 h2 =>
        refine ⟨_, _, rfl, (Da.mono S.bh (.lst h1 h2)).dp, sw_row hl.1, nd_row l, Nat.le_trans (dep_row hl.1) (by decide), sh_row hl.1 hl.2, ?_⟩
        exact q _ B H (Same.refl _) S (.str _)) (by decide +kernel) hg (by decide) (by decide) hs hpl
theorem ed_reprO {l : List Nd} (hgd : X.A.guards = some []) (hu : Room64 X) (hl : RowOk l) (hm : X.mg "repr" = none) (ha : Ed X O M ρ a (.v (.ref p))) (hp : (p, Own.lst ((encs l).map .d)) ∈ M) (hg : Gl X "repr" := by rfl) (hs : starEach [a] X.env = (false, eval a X.env) :: starEach [] X.env := by rfl) (hpl : (backTo pos (starEach [] X.env)).any (·.1) = false := by rfl) : Ed X O M ρ (.Call (.Name "repr" p1) [a] [] pos) (.d (.str (PyData.list (encs l)).shown)) :=
  ed_callB (call_reprD hgd hu) hm (ea_cons ha ea_nil hs) (fun B σ H S vs r Q q => by
    cases r with
    | cons r1 r2 =>
      cases r2
      have r1 : _ = V.ref p := r1
      subst r1
      refine ⟨_, _, rfl, own_dp S hp, sw_row hl.1, nd_row l, Nat.le_trans (dep_row hl.1) (by decide), sh_row hl.1 hl.2, ?_⟩
      exact q _ B H (Same.refl _) S (.str _)) (by decide +kernel) hg (by decide) (by decide) hs hpl
/-- a call that is given an own list to read, and hands back something without a list in it -/
theorem ed_callRO {x : Str} {k : Nat} {ps : List Str} {R : List PyData → PyData → Prop} {ds : List PyData} {d : PyData} (F : Def X.prog X.w X.K X.mg X.base CX0 x k ps (spR X.K R)) (hr : Room k X.A) (ha : Ed X O M ρ e (.v (.ref p))) (hp : (p, Own.lst (ds.map .d)) ∈ M) (h : R [.list ds] d) (hd : noL d = true)
    (hg : Gl X x := by rfl) (hdb : (x == ("__debug__" : Str)) = false := by decide) (he : starEach [e] X.env = (false, eval e X.env) :: starEach [] X.env := by rfl)
    (hpl : (backTo pos (starEach [] X.env)).any (·.1) = false := by rfl) : Ed X O M ρ (.Call (.Name x p1) [e] [] pos) (.d d) := fun B σ H S Q q => by
  obtain ⟨f, fd, F, hm, hk, hb⟩ := F.ex
  refine wE_of (pe_call F hr hg hm hk hb .nil pass0 pa_w hdb he hpl) ((ea_cons ha ea_nil he) B σ H S _ fun vs B1 H1 e1 S1 r1 => ?_)
  cases r1 with
  | cons r1 r2 =>
    cases r2
    have r1 : _ = V.ref p := r1
    subst r1
    show spR X.K R ([.ref p] ++ []) H1 Q E0
    obtain ⟨h1, ⟨o, h2, xs, rfl, h3⟩, _⟩ := S1.own _ hp
    have hB : Same B1 (upd B1 p (.lst xs)) := fun b u z => by rw [upd_ne (ne_of_none z h1)]; exact z
    have hH : Same (upd B1 p (.lst xs)) H1 := fun b u z => by
      by_cases hq : b = p
      · subst hq; rw [upd_same] at z; cases z; exact h2
      · rw [upd_ne hq] at z; exact S1.bh _ _ z
    refine ⟨upd B1 p (.lst xs), [.list ds], d, hH, .cons (.lst upd_same ((Los.da h3).mono hB)) .nil, h, fun v B2 H2 n r => ?_⟩
    have hp2 : B2 p = some (.lst xs) := n.bb _ _ upd_same
    refine q v (fun b => if b = p then none else B2 b) H2 (e1.trans fun b u z => ?_) (S1.step ⟨fun b u z => ?_, fun b u z => ?_, fun b _ z1 z2 => ?_, fun b u h0 z => n.hh b u h0 z, n.hn⟩) (Da.off (fun b ys z => ?_) hd r)
    · have hq : b ≠ p := fun z' => by subst z'; rw [h1] at z; cases z
      exact (if_neg hq).trans (n.bb _ _ (hB _ _ z))
    · have hq : b ≠ p := fun z' => by subst z'; rw [h1] at z; cases z
      exact (if_neg hq).trans (n.bb _ _ (hB _ _ z))
    · by_cases hq : b = p
      · have z' := (if_pos hq).symm.trans z; cases z'
      · exact n.bh _ _ ((if_neg hq).symm.trans z)
    · by_cases hq : b = p
      · exact if_pos hq
      · exact (if_neg hq).trans (n.out b (by simp) (by rw [upd_ne hq]; exact z1) z2)
    · by_cases hq : b = p
      · subst hq
        rcases z with (z | ⟨o, z⟩) | z
        · rw [hp2] at z; cases z
        · rw [hp2] at z; cases z
        · exact .inr z
      · rcases z with (z | ⟨o, z⟩) | z
        · exact .inl (.inl ((if_neg hq).trans z))
        · exact .inl (.inr ⟨o, (if_neg hq).trans z⟩)
        · exact .inr z
end
end K32

/-! # How deep a tree is behind a step -/
namespace K32
open PySem
theorem lift_deep (m : Nat) (t : Tr) : ∀ d, (Tr.lift m d t).deep = t.deep := by
  induction t with
  | name i => intro d; simp only [Tr.lift]; split <;> rfl
  | _ => intro d; simp only [Tr.lift, Tr.deep, *]
theorem max2_le {a b a' b' k : Nat} (h1 : a' ≤ a + k) (h2 : b' ≤ b + k) : 1 + max a' b' ≤ 1 + max a b + k := by
  have := Nat.le_max_left a b
  have := Nat.le_max_right a b
  have := Nat.max_le.mpr ⟨(show a' ≤ max a b + k by omega), (show b' ≤ max a b + k by omega)⟩
  generalize max a b = m at *
  generalize max a' b' = m' at *
  omega
theorem max3_le {a b c a' b' c' k : Nat} (h1 : a' ≤ a + k) (h2 : b' ≤ b + k) (h3 : c' ≤ c + k) : 1 + max a' (max b' c') ≤ 1 + max a (max b c) + k := by
  refine max2_le h1 ?_
  have := max2_le h2 h3
  omega
theorem put_deep (o : Tr) (t : Tr) : ∀ d, (Tr.put o d t).deep ≤ t.deep + o.deep := by
  induction t with
  | name i =>
    intro d
    simp only [Tr.put]
    split
    · rw [lift_deep]; omega
    · split <;> simp only [Tr.deep] <;> omega
  | told n => intro d; simp only [Tr.put, Tr.deep]; omega
  | fn A b ih => intro d; have := ih (d + 1); simp only [Tr.put, Tr.deep]; omega
  | call f a ih1 ih2 => intro d; exact max2_le (ih1 d) (ih2 d)
  | both f a ih1 ih2 => intro d; exact max2_le (ih1 d) (ih2 d)
  | first p ih => intro d; have := ih d; simp only [Tr.put, Tr.deep]; omega
  | second p ih => intro d; have := ih d; simp only [Tr.put, Tr.deep]; omega
  | left B a ih => intro d; have := ih d; simp only [Tr.put, Tr.deep]; omega
  | right B a ih => intro d; have := ih d; simp only [Tr.put, Tr.deep]; omega
  | which s l r ih1 ih2 ih3 => intro d; exact max3_le (ih1 d) (ih2 (d + 1)) (ih3 (d + 1))
  | next n ih => intro d; have := ih d; simp only [Tr.put, Tr.deep]; omega
  | turns A n u s ih1 ih2 ih3 => intro d; exact max3_le (ih1 d) (ih2 (d + 1)) (ih3 d)
  | lt a b ih1 ih2 => intro d; exact max2_le (ih1 d) (ih2 (d + 1))
theorem made_deep {t t' : Tr} (h : madeW t = some t') : t'.deep ≤ 2 * t.deep := by
  cases t with
  | call f a =>
    cases f with
    | fn A b => cases h; have := put_deep a b 0; simp only [Tr.deep]; omega
    | _ => cases h
  | first p =>
    cases p with
    | both a b => cases h; simp only [Tr.deep]; omega
    | _ => cases h
  | second p =>
    cases p with
    | both a b => cases h; simp only [Tr.deep]; omega
    | _ => cases h
  | which s l r =>
    cases s with
    | left B a => cases h; have := put_deep a l 0; have := Nat.le_max_left (1 + a.deep) (max l.deep r.deep); have := Nat.le_max_right (1 + a.deep) (max l.deep r.deep); have := Nat.le_max_left l.deep r.deep; simp only [Tr.deep]; generalize max (1 + a.deep) (max l.deep r.deep) = m at *; generalize max l.deep r.deep = m2 at *; omega
    | right B a => cases h; have := put_deep a r 0; have := Nat.le_max_left (1 + a.deep) (max l.deep r.deep); have := Nat.le_max_right (1 + a.deep) (max l.deep r.deep); have := Nat.le_max_right l.deep r.deep; simp only [Tr.deep]; generalize max (1 + a.deep) (max l.deep r.deep) = m at *; generalize max l.deep r.deep = m2 at *; omega
    | _ => cases h
  | next p =>
    cases p with
    | told m => cases h; simp only [Tr.deep]; omega
    | _ => cases h
  | turns A p u s =>
    cases p with
    | told m =>
      cases h
      cases m with
      | zero => simp only [madeTurns, Tr.deep]; omega
      | succ m =>
        have := put_deep (.turns A (.told m) u s) u 0
        simp only [madeTurns, Tr.deep] at *
        omega
    | _ => cases h
  | lt a b => cases h; have := put_deep a b 0; simp only [Tr.deep]; omega
  | _ => cases h
theorem mkS_deep {Γ : List Kd} {h : Bool} {t : Tr} {r : Str} (g : r ∈ rulesT Γ h t) : (mkS r t (kOf Γ t)).deep ≤ 2 * t.deep + 3 := by
  rcases rules_cases g with ⟨_, _, t', h1, h2⟩ | ⟨_, _, _, _, h2⟩
  · rw [h2]; have := made_deep h1; omega
  · rw [h2]
    cases kOf Γ t <;> simp only [madeLong, Tr.deep, lift_deep] <;> omega
theorem plugs_deep : ∀ (C : List C1) (s s' : Tr), (plugs C s').deep ≤ (plugs C s).deep + s'.deep
  | [], s, s' => Nat.le_add_left _ _
  | c :: C, s, s' => by
    have z := plugs_deep C s s'
    show (c.plug (plugs C s')).deep ≤ (c.plug (plugs C s)).deep + s'.deep
    generalize plugs C s = t at *
    generalize plugs C s' = t' at *
    have k : ∀ n : Nat, n ≤ n + s'.deep := fun n => Nat.le_add_right _ _
    cases c with
    | callL a => exact max2_le z (k _)
    | callR f => exact max2_le (k _) z
    | bothL a => exact max2_le z (k _)
    | bothR f => exact max2_le (k _) z
    | ltA a => exact max2_le z (k _)
    | ltB f => exact max2_le (k _) z
    | whS l r => exact max3_le z (k _) (k _)
    | whL s r => exact max3_le (k _) z (k _)
    | whR s l => exact max3_le (k _) (k _) z
    | tuN A u s => exact max3_le z (k _) (k _)
    | tuU A n s => exact max3_le (k _) z (k _)
    | tuS A n u => exact max3_le (k _) (k _) z
    | _ => simp only [C1.plug, Tr.deep]; omega
theorem step_deep {c : Nat} {k : Kd} {t : Tr} (g : Good c k t) (hc : c ≤ 4) (hs : t.size ≤ 40) {q : Nat} {r : Str} (hm : (q, r) ∈ looks [] 0 false t) : (stepT [] 0 q r t).deep ≤ 200 := by
  obtain ⟨C, s, e0, _, hr, e1, _, _⟩ := g.step hc hs hm
  have h1 := mkS_deep hr
  have h2 := plugs_deep C s (mkS r s (kOf (envs [] C) s))
  have h3 := deep_le t
  have h4 := deep_le s
  obtain ⟨_, _, _, h5⟩ := drop_ctx C s
  rw [e1]
  rw [← e0] at h2 h5
  omega
end K32

set_option maxRecDepth 100000
set_option maxHeartbeats 4000000
namespace K32
open PySem L2
theorem nodes_ok {t : Tr} {k : Kd} (h : ty [] t = some k) (o : okT t) (hs : t.size ≤ 300) : ∀ n ∈ t.flat, n.ok = true := okT_flat t o fun i hi => by
  have := name_lt t [] k h i hi
  simp at *; omega
theorem eqv_rows (l m : List Nd) : PyData.eqv (.list (encs l)) (.list (encs m)) = decide (l = m) := by
  simp only [PyData.eqv]
  exact eqv_all Nd.eqv l m
theorem lay_rows (l : List Nd) : (PyData.list (encs l)).canLay0 = true := lay_list (lay_all Nd.lay l)
theorem eqok_rows {l m : List Nd} (h : RowOk l) : EqOk (.list (encs l)) (.list (encs m)) := ⟨lay_rows l, lay_rows m, .inl (Nat.le_trans (dep_row h.1) (by decide))⟩
theorem layA_steps {ys : List (Nat × Str)} (h : ∀ a ∈ ys, PyData.strOk a.2 = true) : PyData.canLayAll0 (ys.map stepD) = true := by
  induction ys with
  | nil => exact layA_nil
  | cons y ys ih => exact layA_cons (SeqAt.canLay_of_shaped (shaped_step (h y List.mem_cons_self))) (ih fun a ha => h a (List.mem_cons_of_mem _ ha))
section
variable {P : Program} {w : World} {K : PySem.W.Frag} {mg : Str → Option Value} {base : Heap}
abbrev Gd (A : Around) : Prop := A.guards = some []
def R_lright : Owns → List Lo → Post → Prop := fun M ls Po => ∃ (p : Addr), M = [(p, .pot)] ∧ ls = [.v (.ref p)] ∧ Po = fun _ l => l = .d (.bool true)
/-- what stands ahead of a turn -/
def Irt (p : Addr) (k : Kd) (n ff : Tr) (i : Nat) (M : Owns) (ρ : List Lo) : Prop := ∃ t, M = [(p, .pot)] ∧ Good (1 + i) k t ∧ t.deep ≤ 200 ∧ ev t [] = ev n [] ∧ ρ = [.v (.ref p), .d (.list (encs n.flat)), .d (.list (encs ff.flat)), .d k.enc, .d t.enc, .no, .no, .no, .no, .no, .no, .no, .no]
theorem d__law_right (T : Tx w K mg) : DefA Gd P w K mg base "_law_right" 204 ["_law_pot_here"] (spO K R_lright) := by
  refine def_OA (f__law_right T) (g__law_right T) sc__law_right (fun _ _ _ _ _ _ us hl => match us, hl with | [_], _ => rfl) (fun M ls Po h => by obtain ⟨p, rfl, rfl, rfl⟩ := h; rfl) fun cdv A outer s H hΦ hr M ls Po h O D hD hq => ?_
  obtain ⟨p, rfl, rfl, rfl⟩ := h
  refine go_tupV (Φ := fun l => ∃ k ∈ drawnK, ∃ b n ff, PairR k [] b n ff ∧ b ≤ 100 ∧ l = .d (.tuple [.list (encs n.flat), .list (encs ff.flat)])) (Ex.ev (P := fun M' l => M' = [(p, .pot)] ∧ ∃ k ∈ drawnK, ∃ b n ff, PairR k [] b n ff ∧ b ≤ 100 ∧ l = .d (.tuple [.list (encs n.flat), .list (encs ff.flat)])) (ex_call ((d__law_two T).up (by decide)) hr (ea_cons (ed_v 0) (ea_cons ed_int ea_nil)).ac ?_) fun M' l h => h)
    (pg_tup rfl (pgs_cons (pg_name (i := 1) sc__law_right.nd rfl (.inl rfl)) (pgs_cons (pg_name (i := 2) sc__law_right.nd rfl (.inl rfl)) pgs_nil))) ?_
  · rintro M1 ls ⟨rfl, rfl⟩
    refine ⟨[(p, .pot)], [], _, List.Perm.refl _, ⟨p, rfl, rfl, rfl⟩, fun M' l h => ?_⟩
    rw [List.append_nil]
    exact h
  rintro l ⟨k, hk, b, n, ff, hp, hb, rfl⟩
  refine ⟨_, _, rfl, tg_two 1 2, ?_⟩
  have hsn := hp.sn
  have hsf := hp.sf
  have hshn := (drawn_ok k hk).2
  have okn := nodes_ok hp.tn hp.on (by omega)
  refine go_par2 3 4 sc__law_right.nd (ac_two (ed_callR (ds := [.list (encs n.flat)]) ((d_program_kind T).up (by decide)) hr (ea_cons (ed_v 1) ea_nil) ⟨_, n.flat, kds [] n, k, rfl, .inl rfl, prog_tree hp.tn okn (by omega), by rw [kds_head, kOf_eq hp.tn], rfl⟩)
    (ed_callR (ds := [.list (encs ff.flat)]) ((d__law_tree T).up (by decide)) hr (ea_cons (ed_v 2) ea_nil) ⟨ff, rfl, by omega, rfl⟩)) ?_
  rintro M' ls ⟨rfl, rfl⟩
  refine ⟨_, _, rfl, ?_⟩
  refine go_forX (Irt p k n ff) (it_range1 (b_range T) ed_int (by decide) (by decide)) (pg_name (i := 5) sc__law_right.nd rfl (.inl rfl)) ⟨ff, rfl, ⟨hp.tf, hp.of, hp.tb, by omega⟩, by have := deep_le ff; omega, hp.ev [] rfl, rfl⟩ ?_ ?_
  · rintro L i hi Mi ρi ⟨t, rfl, hg, hdl, hev, rfl⟩
    have hi : i < 4 := hi
    have hms := hg.most
    have hkt := hg.kind
    have hrow : RowOk t.flat := ⟨hg.nodes, by rw [Tr.flat_len]; exact hms⟩
    refine ⟨_, tg_name 5, ?_⟩
    refine go_par2 6 7 (P := fun M' ls => M' = [(p, .pot)] ∧ ∃ ys : List (Nat × Str), ys.Perm (looks [] 0 false t) ∧ ls = [.d (stepsD ys), .d (.list (encs t.flat))]) sc__law_right.nd ?_ ?_
    · refine fun B σ H S Q q => (ac_v (Φ := fun l => ∃ ys : List (Nat × Str), ys.Perm (looks [] 0 false t) ∧ l = .d (stepsD ys)) (Ex.ev (P := fun M' l => M' = [(p, .pot)] ∧ ∃ ys : List (Nat × Str), ys.Perm (looks [] 0 false t) ∧ l = .d (stepsD ys)) (ex_call ((d__law_steps T).up (by decide)) hr (ea_cons (ed_v 4) ea_nil).ac ?_) fun M' l h => h)
        (ac_d (ed_callR (ds := [t.enc]) ((d_lflat T 200).up (by decide)) hr (ea_cons (ed_v 4) ea_nil) ⟨t, rfl, by omega, by omega, rfl⟩) ac_nil)) B σ H S Q fun vs ls M' B' H' h => q vs ls M' B' H' ?_
      · rintro M1 ls ⟨rfl, rfl⟩
        refine ⟨[], [(p, .pot)], _, List.Perm.refl _, ⟨t, k, rfl, rfl, hms, hdl, hkt, rfl⟩, fun M' l h => ?_⟩
        obtain ⟨rfl, h⟩ := h
        exact ⟨rfl, h⟩
      · obtain ⟨l1, r1, rfl, ⟨ys, hys, rfl⟩, l2, rfl, rfl, rfl⟩ := h
        exact ⟨rfl, ys, hys, rfl⟩
    rintro M' ls ⟨rfl, ys, hys, rfl⟩
    refine ⟨_, _, rfl, ?_⟩
    have hyok : ∀ a ∈ ys, PyData.strOk a.2 = true := fun a ha => ok_ruleS _ (List.contains_iff_mem.mp (looks_ok hkt (hys.subset ha)).1)
    refine go_when (k := decide (40 < t.size)) (et_b (et_gt (ed_lenL (b_len T) (ed_v 7)) ed_int) (by rw [encs_len, Tr.flat_len]; exact decide_eq_decide.mpr (by omega))) (fun _ => go_retX (Ed.ex ed_bl) ((hq L).imp fun M' l h => h.2)) fun hz => ?_
    have hz : t.size ≤ 40 := by have := of_decide_eq_false hz; omega
    refine go_skip (et_b (k := !true) (et_not (et_v (Ex.ed (P := fun M' l => M' = [(p, .pot)] ∧ l = .d (.bool true)) (ex_call ((d__law_is_refused_right T).up (by decide)) hr (ea_cons (ed_v 0) (ea_cons (ed_v 7) (ea_cons (ed_v 6) ea_nil))).ac ?_) fun M' l h => h))) rfl) ?_
    · rintro M1 ls ⟨rfl, rfl⟩
      refine ⟨[(p, .pot)], [], _, List.Perm.refl _, ⟨p, 1 + i, k, t, ys, rfl, rfl, hg, by omega, hz, hys, rfl⟩, fun M' l h => ?_⟩
      rw [List.append_nil]
      exact h
    refine go_when (k := decide (ys = [])) (et_b (et_eq hr.r64 (ed_v 6) (ed_lst (ds := []) ea_nil) (eqok_nil (layA_steps hyok))) (by rw [eqv_nil]; exact decide_eq_decide.mpr List.map_eq_nil_iff)) (fun hn => ?_) fun hn => ?_
    · have hn : ys = [] := of_decide_eq_true hn
      subst hn
      have hl : looks [] 0 false t = [] := hys.symm.eq_nil
      have e : t = n := nf_unique hkt hp.tn hshn (nf_looks.mp hl) hp.nf hev
      refine go_retX (Ed.ex (ed_eq hr.r64 (ed_v 7) (ed_v 1) (eqok_rows hrow))) ((hq L).imp fun M' l h => ?_)
      rw [h.2, eqv_rows, e]
      simp
    have hn : ys ≠ [] := of_decide_eq_false hn
    refine go_tupV (Φ := fun l => ∃ y ∈ ys, l = .d (stepD y)) (Ev.mono (ev_pick (ds := ys.map stepD) ((d__law_pick T).up (by decide)) hr (ed_v 0) (ed_v 6) (by simpa using hn) ?_) ?_)
      (pg_tup rfl (pgs_cons (pg_name (i := 8) sc__law_right.nd rfl (.inl rfl)) (pgs_cons (pg_name (i := 9) sc__law_right.nd rfl (.inl rfl)) pgs_nil))) ?_
    · rw [List.length_map, hys.length_eq]
      exact Nat.le_trans (looks_len _ _ _ _) (by omega)
    · rintro l ⟨d, hd, rfl⟩
      obtain ⟨y, hy, rfl⟩ := List.mem_map.mp hd
      exact ⟨y, hy, rfl⟩
    rintro l ⟨⟨q, r⟩, hy, rfl⟩
    refine ⟨_, _, rfl, tg_two 8 9, ?_⟩
    have hm : (q, r) ∈ looks [] 0 false t := hys.subset hy
    obtain ⟨C, s1, e1, e2, e3, e4, hg2, hev2⟩ := hg.step (by omega) hz hm
    obtain ⟨sx, rest, sy, kk, hS, g1, g2, g3, g4, g5⟩ := step_stp hg (by omega) hz hm
    have hg2 : Good (1 + (i + 1)) k (stepT [] 0 q r t) := hg2
    clear e1 e2 e3 e4
    have hdl2 := step_deep hg (by omega) hz hm
    generalize ht2 : stepT [] 0 q r t = t2 at hg2 hev2 g4 hdl2
    have hrow2 : RowOk t2.flat := ⟨hg2.nodes, by rw [Tr.flat_len]; exact hg2.most⟩
    have hms2 := hg2.most
    have hkd : k.deep ≤ 10 := (by decide +kernel : ∀ k ∈ drawnK, k.deep ≤ 10) k hk
    have hkdd := k.dep
    have hpr := prog_tree hkt hg.nodes hms
    have hpr2 := prog_tree hg2.kind hg2.nodes hms2
    refine go_asg (l := .d t2.enc) 4 sc__law_right.nd (ed_callR (ds := [t.enc, .int q, .str r]) ((d__law_stepped T).up (by decide)) hr (ea_cons (ed_v 4) (ea_cons (ed_v 8) (ea_cons (ed_v 9) ea_nil))) ⟨t, q, r, k, rfl, hz, hkt, g5, by rw [ht2]⟩) ?_
    refine go_par2 10 11 sc__law_right.nd (ac_two (ed_repr hΦ hr.r64 hrow (b_repr T) (ed_v 7)) (ed_callR (ds := [t2.enc]) ((d_lflat T 200).up (by decide)) hr (ea_cons (ed_v 4) ea_nil) ⟨t2, rfl, by omega, by omega, rfl⟩)) ?_
    rintro M' ls ⟨rfl, rfl⟩
    refine ⟨_, _, rfl, ?_⟩
    refine go_asgL (ls := (encs t2.flat).map .d) 12 sc__law_right.nd (el_callL (ds := [.list (encs t.flat), .int q, .str r]) ((d_stepped T).up (by decide)) hr (ea_cons (ed_v 7) (ea_cons (ed_v 8) (ea_cons (ed_v 9) ea_nil))) ⟨_, t, q, sx, rest, r, sy, kds [] t, kk, rfl, .inl rfl, hpr, hS, g2, g3, by rw [g4]⟩) fun tp htp => ?_
    refine go_skip (et_or3 (et_b (et_neS (ed_reprO (l := t2.flat) (p := tp) hΦ hr.r64 hrow2 (b_repr T) (ed_v 12) List.mem_cons_self) (ed_repr (l := t2.flat) hΦ hr.r64 hrow2 (b_repr T) (ed_v 11))) (by simp))
      (et_b (et_ne hr.r64 (ed_callRO (p := tp) (ds := encs t2.flat) ((d_program_kind T).up (by decide)) hr (ed_v 12) List.mem_cons_self ⟨_, t2.flat, kds [] t2, k, rfl, .inl rfl, hpr2, by rw [kds_head, kOf_eq hg2.kind], rfl⟩ (noL_kd k)) (ed_v 3) ⟨k.lay, k.lay, .inl (by omega)⟩) (by rw [Kd.eqv]; simp))
      (et_b (et_neS (ed_repr (l := t.flat) hΦ hr.r64 hrow (b_repr T) (ed_v 7)) (ed_v 10)) (by simp))) ?_
    refine go_skip (et_b (et_and (et_lt (ed_v 5) ed_int) fun _ => et_b (k' := false) (et_ne hr.r64 (El.ed (el_callK3 (ds := [.tuple (encs t.flat), .int q, .str r]) (fs := encs t2.flat) ((k_stepped T).up (by decide)) hr (ed_v 9) (ed_tuple (b_tuple T) (ed_v 7)) (ed_v 8) (fun B v1 v2 v3 h1 h2 h3 => .cons h2 (.cons h3 (.cons h1 .nil))) ⟨_, t, q, sx, rest, r, sy, kds [] t, kk, rfl, .inr rfl, hpr, hS, g2, g3, by rw [g4]⟩)) (ed_v 11) (eqok_rows hrow2)) (by rw [eqv_rows]; simp)) (by rw [Bool.and_false])) ?_
    refine go_append 0 12 (l := .d .none) (ed_v 12) rfl ed_non (by rw [List.length_map, encs_len, Tr.flat_len]; omega) ?_
    exact Go.drop (M' := [(p, .pot)]) (go_turnXW ⟨t2, rfl, hg2, hdl2, hev2.trans hev, rfl⟩) (List.sublist_cons_self _ _)
  · rintro Mi ρi ⟨t, rfl, hg, hdl, hev, rfl⟩
    exact go_retX (Ed.ex ed_bl) ((hq O.L).imp fun M' l h => h.2)
end
end K32

set_option maxRecDepth 100000
set_option maxHeartbeats 4000000
namespace K32
open PySem L2
theorem sql_mono {K : PySem.W.Frag} {H H' : Hp} (e : Same H H') {a : Addr} {xs : List V} (h : SqL K H a xs) : SqL K H' a xs := by
  rcases h with (h | ⟨o, h⟩) | h
  · exact .inl (.inl (e _ _ h))
  · exact .inl (.inr ⟨o, e _ _ h⟩)
  · exact .inr h
section
variable {X : Cx} {O : Og} {M : Owns} {ρ : List Lo} {e b : Expr} {p1 p2 pos : Pos} {a : Addr} {ns : List Int}
theorem ed_lenSc (hS : SqL X.K O.L a (ns.map V.int)) (hm : X.mg "len" = none) (h : Ed X O M ρ e (.v (.ref a))) (hg : Gl X "len" := by rfl) (he : starEach [e] X.env = (false, eval e X.env) :: starEach [] X.env := by rfl) (hpl : (backTo pos (starEach [] X.env)).any (·.1) = false := by rfl) : Ed X O M ρ (.Call (.Name "len" p1) [e] [] pos) (.d (.int ns.length)) :=
  ed_callB call_len_seq hm (ea_cons h ea_nil he) (fun B σ H S vs r Q q => by
    cases r with
    | cons r1 r2 =>
      cases r2
      cases r1
      exact ⟨a, _, rfl, .inl (sql_mono (S.lb.trans S.bh) hS), by rw [List.length_map]; exact q _ B H (Same.refl _) S (.int _)⟩) (by decide +kernel) hg (by decide) (by decide) he hpl
theorem ed_ixSc (hS : SqL X.K O.L a (ns.map V.int)) {i z : Int} (hz : atI (ns.map V.int) i = some (.int z)) (ha : Ed X O M ρ e (.v (.ref a))) (hb : Ed X O M ρ b (.d (.int i))) (hs : PlainIx b := by exact fun _ _ => rfl) : Ed X O M ρ (.Subscript e b pos) (.d (.int z)) := fun B σ H S Q q =>
  wE_of (pe_ix ix_list pe_w pe_w hs) (ha B σ H S _ fun x B1 H1 e1 S1 r1 => hb B1 σ H1 S1 _ fun y B2 H2 e2 S2 r2 => by
    have r1 : x = .ref a := r1
    have r2 : Da X.K B2 y (.int i) := r2
    subst r1
    cases r2
    exact ⟨a, _, i, _, rfl, rfl, sql_mono (S2.lb.trans S2.bh) hS, hz, q _ B2 H2 (e1.trans e2) S2 (.int _)⟩)
theorem el_cut0 (hS : SqL X.K O.L a ([] : List V)) {i : Int} (he : Ed X O M ρ e (.v (.ref a))) (hh : Ed X O M ρ b (.d (.int i))) : El X O M ρ (.Subscript e (.Slice none (some b) none p2) pos) ([] : List Lo) := fun B σ H S Q q => by
  obtain ⟨th, ph, rh⟩ := eo_some hh
  refine wE_of (pe_slice sl_list pe_w po_none ph) (he B σ H S _ fun v B1 H1 e1 S1 r1 => rh B1 σ H1 S1 _ fun B2 H2 e2 S2 => ?_)
  have r1 : v = .ref a := r1
  subst r1
  refine ⟨a, [], rfl, sql_mono (S2.lb.trans S2.bh) hS, fun p hp => q p B2 _ (S2.fresh hp) (e1.trans e2) (S2.new hp ⟨_, rfl, ?_⟩)⟩
  unfold cutV
  simp only [List.drop_nil, List.take_nil]
  exact .nil
theorem ed_sum0 (hc : X.calm = true) (hm : X.mg "sum" = none) (h : Ed X O M ρ e (.d (.list []))) (hg : Gl X "sum" := by rfl) (he : starEach [e] X.env = (false, eval e X.env) :: starEach [] X.env := by rfl) (hpl : (backTo pos (starEach [] X.env)).any (·.1) = false := by rfl) : Ed X O M ρ (.Call (.Name "sum" p1) [e] [] pos) (.d (.int 0)) :=
  ed_callB (cr_sum hc) hm (ea_cons h ea_nil he) (fun B σ H S vs r Q q => by
    cases r with
    | cons r1 r2 =>
      cases r2
      have r1 : Da X.K B _ (.list []) := r1
      cases r1 with
      | lst h1 h2 =>
        cases h2
        exact ⟨_, [], rfl, SqL.of (S.bh _ _ h1), q _ B H (Same.refl _) S (.int _)⟩) (by decide +kernel) hg (by decide) (by decide) he hpl
end
section
variable {P : Program} {w : World} {K : PySem.W.Frag} {mg : Str → Option Value} {base : Heap}
/-- the script's first cell, as the law draws from it -/
def cellOf : List Int → Int
  | [] => 59
  | z :: _ => if z < 0 then -z else z
def potA (c : Int) : Int := if c - 10 ^ 18 > 0 then c - 10 ^ 18 else 0
theorem cell_nn (ns : List Int) : 0 ≤ cellOf ns := by
  cases ns with
  | nil => decide
  | cons z r => show 0 ≤ (if z < 0 then -z else z); split <;> omega
theorem cell_big {ns : List Int} (h : ∀ z ∈ ns, Builtin.Int.intBits z ≤ 1048576) : (cellOf ns).natAbs < 2 ^ 1048600 := by
  have le : (2 : Nat) ^ 1048576 ≤ 2 ^ 1048600 := Nat.pow_le_pow_right (by decide) (by decide)
  cases ns with
  | nil => exact Nat.lt_of_lt_of_le (Nat.lt_of_lt_of_le (by decide : 59 < 2 ^ 6) (Nat.pow_le_pow_right (by decide) (by decide : 6 ≤ 1048576))) le
  | cons z r =>
    have e : (cellOf (z :: r)).natAbs = z.natAbs := by show (if z < 0 then -z else z).natAbs = _; split <;> omega
    rw [e]
    have hz := h z List.mem_cons_self
    unfold Builtin.Int.intBits at hz
    refine Nat.lt_of_lt_of_le ?_ le
    by_cases hz0 : z.natAbs = 0
    · rw [hz0]; exact Nat.pos_of_ne_zero (by exact Nat.ne_of_gt (Nat.pow_pos (by decide)))
    · refine (Nat.log2_lt hz0).mp ?_
      have hb : (z == 0) = false := by simpa using fun q => hz0 (by rw [q]; rfl)
      rw [hb] at hz
      exact hz
theorem pot_first {ns : List Int} (h : ∀ z ∈ ns, Builtin.Int.intBits z ≤ 1048576) : PotOk (potA (cellOf ns)) ((cellOf ns % 2147483549 * 40487 + 7151 * 0 + 97) % 2147483563 + 1) := by
  have h1 := cell_nn ns
  have h2 := cell_big h
  have h3 := Int.emod_nonneg (cellOf ns % 2147483549 * 40487 + 7151 * 0 + 97) (show (2147483563 : Int) ≠ 0 by decide)
  have h4 := Int.emod_lt_of_pos (cellOf ns % 2147483549 * 40487 + 7151 * 0 + 97) (show (0 : Int) < 2147483563 by decide)
  have h5 : 0 ≤ potA (cellOf ns) ∧ (potA (cellOf ns)).natAbs ≤ (cellOf ns).natAbs := by
    unfold potA
    split <;> omega
  exact ⟨h5.1, Nat.lt_of_le_of_lt h5.2 h2, by omega, by omega⟩
/-- _law_pot(script, 0) -/
def spPot (K : PySem.W.Frag) : Sp := fun vs H Q _ => ∃ (B : Hp) (a : Addr) (ns : List Int), Same B H ∧ SqL K B a (ns.map V.int) ∧ (∀ z ∈ ns, Builtin.Int.intBits z ≤ 1048576) ∧ vs = [.ref a, .int 0] ∧
  ∀ p B' H', Nx [] B H B' H' → H p = none → OwnAll K B' H' [(p, .pot)] → Q (.ref p) H'
theorem go_pot (T : Tx w K mg) {cdv : Value} {A : Around} {outer : List Env} {s : Shared} {H0 : Hp} {E : XK} {O : Og} {D : Ends} {a : Addr} {ns : List Int} (hS : SqL K O.L a (ns.map V.int)) (h : ∀ z ∈ ns, Builtin.Int.intBits z ≤ 1048576)
    (hq : RetO K O D (fun M' l => ∃ p, O.H p = none ∧ M' = [(p, .pot)] ∧ l = .v (.ref p))) : Go (cxD P w K mg base "_law_pot" sL_pot N__law_pot (He.ga K "_law_pot") cdv A outer s H0 E) O [] [.v (.ref a), .d (.int 0), .no] D (defBody sL_pot) := by
  refine go_asg (l := .d (.int (cellOf ns))) 2 sc__law_pot.nd ?_ ?_
  · cases ns with
    | nil =>
      refine ed_ifF (et_lt (ed_v 1) (ed_lenSc hS (b_len T) (ed_v 0))) (by decide) ?_
      exact ed_is (ed_add (ed_add (ed_mul (.inl ⟨by decide, by decide⟩) ed_int (ed_v 1)) ed_int) (ed_mod (by decide) (ed_abs (b_abs T) (ed_sum0 rfl (b_sum T) (El.ed (ds := []) (el_cut0 hS (ed_v 0) ed_int)))) ed_int)) (congrArg (fun z => Lo.d (.int z)) (by decide +kernel))
    | cons z r =>
      refine ed_ifT (et_lt (ed_v 1) (ed_lenSc hS (b_len T) (ed_v 0))) (decide_eq_true (by simp only [List.length_cons]; omega)) ?_
      exact ed_abs (b_abs T) (ed_ixSc hS (atI_nat (j := 0) rfl) (ed_v 0) (ed_v 1))
  · have hc := Int.emod_nonneg (cellOf ns) (show (2147483549 : Int) ≠ 0 by decide)
    have hc2 := Int.emod_lt_of_pos (cellOf ns) (show (0 : Int) < 2147483549 by decide)
    refine go_retX (El.ex (ls := [.d (.int (potA (cellOf ns))), .d (.int ((cellOf ns % 2147483549 * 40487 + 7151 * 0 + 97) % 2147483563 + 1))]) (el_lst (ea_cons (ed_is (ed_max2 rfl (b_max T) ed_int (ed_sub (ed_v 2) (ed_is (ed_pow (i := 10) (j := 18) ed_int ed_int ⟨by decide, by decide, by decide⟩) (l' := .d (.int (10 ^ 18))) rfl))) rfl)
      (ea_cons (ed_add (ed_mod (by decide) (ed_int1 (b_int T) (ed_add (ed_add (ed_mul (.inl ⟨by omega, by omega⟩) (ed_mod (by decide) (ed_int1 (b_int T) (ed_v 2)) ed_int) ed_int) (ed_mul (.inl ⟨by decide, by decide⟩) ed_int (ed_v 1))) ed_int)) ed_int) ed_int) ea_nil)))) ?_
    rintro B H M ρ σ v l S r ⟨p, hO, rfl, rfl⟩
    exact hq B H _ ρ σ v _ (S.reown 0 (w' := .pot) rfl fun o q => pot_of (pot_first h) q) r ⟨p, hO, rfl, rfl⟩
end
end K32

set_option maxRecDepth 100000
set_option maxHeartbeats 4000000
namespace K32
open PySem L2
section
variable {P : Program} {w : World} {K : PySem.W.Frag} {mg : Str → Option Value} {base : Heap}
theorem d__law_pot (T : Tx w K mg) : Def P w K mg base CX0 "_law_pot" 1 ["_law_script", "_law_k"] (spPot K) := by
  obtain ⟨fd, F⟩ := f__law_pot T
  refine ⟨⟨_, fd, F.ok sc__law_pot (fun vs H Q E h => ?_) fun cdv A outer s H vs Q E hr h => ?_, g__law_pot T, F.kp, F.bindsN fun _ _ _ _ _ _ us hl => match us, hl with | [_, _], _ => rfl⟩⟩
  · obtain ⟨_, _, _, _, _, _, rfl, _⟩ := h; rfl
  · obtain ⟨B, a, ns, h1, h2, h3, rfl, h4⟩ := h
    have sl : Sls K B (L2.start N__law_pot [.ref a, .int 0]) [.v (.ref a), .d (.int 0), .no] := .cons rfl (.cons (.int 0) (.cons trivial .nil))
    refine ⟨wSs (cxD P w K mg base "_law_pot" sL_pot N__law_pot _ cdv A outer s H E) (defBody sL_pot), PSs.nox pss_w, ?_⟩
    refine go_pot T (O := ⟨B, H, [], B⟩) h2 h3 (fun B' H' M ρ σ v l S r z => ?_) B _ H ⟨Nx.refl h1, Same.refl _, fun p hp => by simp at hp, .nil, sl⟩
    obtain ⟨p, hO, rfl, rfl⟩ := z
    have ev : v = .ref p := r
    subst ev
    exact h4 p B' H' S.nx hO S.ownAll
section
variable {X : Cx} {O : Og} {ρ : List Lo} {e b : Expr} {p1 pos : Pos} {a : Addr} {ns : List Int}
theorem ex_pot (F : Def X.prog X.w X.K X.mg X.base CX0 "_law_pot" 1 ["_law_script", "_law_k"] (spPot X.K)) (hr : Room 1 X.A) (hS : SqL X.K O.L a (ns.map V.int)) (h : ∀ z ∈ ns, Builtin.Int.intBits z ≤ 1048576)
    (ha : Ed X O [] ρ e (.v (.ref a))) (hb : Ed X O [] ρ b (.d (.int 0))) (hg : Gl X "_law_pot" := by rfl)
    (he : starEach [e, b] X.env = (false, eval e X.env) :: starEach [b] X.env := by rfl) (he2 : starEach [b] X.env = (false, eval b X.env) :: starEach [] X.env := by rfl) (hpl : (backTo pos (starEach [b] X.env)).any (·.1) = false := by rfl) :
    Ex X O [] ρ (.Call (.Name "_law_pot" p1) [e, b] [] pos) (fun M' l => ∃ p, M' = [(p, .pot)] ∧ l = .v (.ref p)) := fun B σ H S Q q => by
  obtain ⟨f, fd, F, hm, hk, hbd⟩ := F.ex
  refine wE_of (pe_call F hr hg hm hk hbd .nil pass0 pa_w (by decide) he hpl) ((ea_cons ha (ea_cons hb ea_nil he2) he) B σ H S _ fun vs B1 H1 e1 S1 r => ?_)
  cases r with
  | cons r1 r =>
    cases r with
    | cons r2 r =>
      cases r
      have r1 : _ = V.ref a := r1
      have r2 : Da X.K B1 _ (.int 0) := r2
      subst r1
      cases r2
      refine ⟨B1, a, ns, S1.bh, sql_mono S1.lb hS, h, rfl, fun p B2 H2 n hp ho => ?_⟩
      have S2 := S1.after (Mx := []) (Mr := []) (M' := [(p, .pot)]) n ho (by simp) fun z hz => .inr (by rw [List.mem_singleton.mp hz]; exact hp)
      exact q (.ref p) (.v (.ref p)) [(p, .pot)] B2 H2 ⟨p, rfl, rfl⟩ (e1.trans n.bb) S2 rfl
end
theorem Go.run {X : Cx} {O : Og} {M : Owns} {ρ : List Lo} {D : Ends} {sts : List Stmt} {B : Hp} {σ : L2.St} {H : Hp} (h : Go X O M ρ D sts) (S : Sit X.K O B M ρ σ H) : wSs X sts D σ H := h B σ H S
def sp_law (K : PySem.W.Frag) : Sp := fun vs H Q _ => ∃ (a : Addr) (ns : List Int), vs = [.ref a] ∧ SqL K H a (ns.map V.int) ∧ (∀ z ∈ ns, Builtin.Int.intBits z ≤ 1048576) ∧ ∀ H', Q (.bl true) H'
theorem ok_law (T : Tx w K mg) {fd : FuncData} (F : FunD K "law" "law" (defArgs s_law) (defBody s_law) (defScope s_law) [] [] (He.ga K "law") fd) : FnOkA Gd P w K mg base 205 (He.ga K "law") fd ["_law_script"] (sp_law K) := by
  refine fnA F sc_law (fun vs H Q E h => ?_) fun cdv A outer s H vs Q hΦ hr h => ?_
  · obtain ⟨_, _, rfl, _⟩ := h; rfl
  · obtain ⟨a, ns, rfl, h1, h2, h3⟩ := h
    have key : Go (cxD P w K mg base "law" s_law N_law (He.ga K "law") cdv A outer s H E0) ⟨H, H, [], H⟩ [] [.v (.ref a)] { nx := fun _ H' => Q .non H', rt := Q } (defBody s_law) := by
      refine go_retX (P := fun _ l => l = .d (.bool true)) (ex_callA (d__law_right T) hΦ hr (ac_x (ex_pot (O := ⟨H, H, [], H⟩) (d__law_pot T) (hr.mono (by decide)) h1 h2 (ed_v 0) ed_int) fun M1 l _ => ac_nil) ?_) ?_
      · rintro M1 ls ⟨M2, l, r, ⟨p, rfl, rfl⟩, rfl, rfl, rfl⟩
        exact ⟨[(p, .pot)], [], _, List.Perm.refl _, ⟨p, rfl, rfl, rfl⟩, fun M' l h => h⟩
      · rintro B' H' M ρ σ v l S r rfl
        have r : Da K B' v (.bool true) := r
        cases r
        exact h3 H'
    exact key.run (B := H) ⟨Nx.refl (Same.refl _), Same.refl _, fun p hp => by simp at hp, .nil, .cons rfl .nil⟩
end
end K32

set_option maxRecDepth 100000
set_option maxHeartbeats 4000000
namespace K32
open PySem PySem.Spec PyProof.Rows L2
/-! ## The law's call, behind the top -/
/-- how the script is tracked: frozen, or not at all where the written part holds it -/
structure Script (P : Program) (w : World) (K : PySem.W.Frag) (h : Heap) (a : Addr) (ns : List Int) (H : Hp) : Prop where
  sq : SqL K H a (ns.map V.int)
  ok : HOk P w H h
  at_ : ∀ b u, H b = some u → b = a ∧ K.lookup a = none ∧ ∃ o xs, u = .frz o (.lst xs)
section
variable {P : Program} {w : World} {K : PySem.W.Frag} {mg mb : Str → Option Value} {k : Nat} {fa a : Addr} {fd : FuncData} {x : Str} {s₁ : Shared} {vs : List Value} {ns : List Int}
theorem script_tracked (KX : K.In s₁.heap) (ha : s₁.heap.get? a = some { cls := .type "list", data := .seq vs.toArray }) (hi : IntsAre vs ns) (hl : ns.length ≤ sizeLine) : ∃ H : Hp, Script P w K s₁.heap a ns H := by
  have hv := vals_ints hi
  have hz : vs.length ≤ sizeLine := by rw [hi.length]; exact hl
  cases hk : K.lookup a with
  | some o =>
    have ho := KX a o hk
    rw [ha] at ho
    cases ho
    exact ⟨fun _ => none, .inr ⟨_, vs.toArray, _, hk, rfl, rfl, rfl, by rw [List.size_toArray]; exact hz, by rw [List.toList_toArray]; exact hv⟩, (fun b u z => nomatch z), fun b u z => nomatch z⟩
  | none =>
    let o : Obj := { cls := .type "list", data := .seq vs.toArray }
    let T : HO := .frz o (.lst (ns.map V.int))
    have at_ : ∀ b u, (if b = a then some T else none) = some u → b = a ∧ u = T := fun b u z => by
      by_cases q : b = a
      · rw [if_pos q] at z; exact ⟨q, (Option.some.inj z).symm⟩
      · rw [if_neg q] at z; cases z
    refine ⟨fun b => if b = a then some T else none, .inl (.inr ⟨o, if_pos rfl⟩), fun b u z => ?_, fun b u z => ?_⟩
    · obtain ⟨rfl, rfl⟩ := at_ b u z
      exact ⟨ha, by rw [List.length_map]; exact hl, vs, _, hv, ha⟩
    · obtain ⟨e1, e2⟩ := at_ b u z
      exact ⟨e1, hk, o, _, e2⟩
theorem call_law (KX : K.In s₁.heap) (hns : s₁.heap.Ns mainGlobals mg) (hb : s₁.heap.Ns builtinsNs mb) (hbb : ∀ x : Str, x ≠ "__name__" → mb x = bootBuiltins x) (hlim : s₁.heap.NoLimit) (hg : s₁.gens = #[])
    (ha : s₁.heap.get? a = some { cls := .type "list", data := .seq vs.toArray }) (hi : IntsAre vs ns) (hl : ns.length ≤ sizeLine) (hbits : ∀ z ∈ ns, Builtin.Int.intBits z ≤ 1048576) (hr : Room k callerA)
    (F : ∀ base : Heap, FnOkA Gd P w K mg base k fa fd [x] (sp_law K)) (hbind : ∀ (s : Shared) (u : Value), BindsTo s fd ⟨[u], []⟩ [(x, u)]) :
    codeAny (model P w) callerA (.call (.ref fa) ⟨[.ref a], []⟩) (fun r s' => r = .ok (.ret (.bool true)) ∧ OldK s₁.heap s'.heap ∧ s'.os = s₁.os ∧ AllBare s'.gens) s₁ := by
  obtain ⟨H, S⟩ := script_tracked (P := P) (w := w) KX ha hi hl
  have dictFree : ∀ {b : Addr} {o : Obj} {es : Array DictEntry} {ep : Nat}, s₁.heap.get? b = some o → o.data = .dict es ep → H b = none := fun {b o es ep} e d => by
    cases q : H b with
    | none => rfl
    | some u =>
      obtain ⟨rfl, _⟩ := S.at_ b u q
      rw [ha] at e
      cases e
      exact absurd d (by intro z; cases z)
  have ns_ : ∀ {b : Addr} {m : Str → Option Value}, s₁.heap.Ns b m → (hidT s₁.heap H).Ns b m := fun {b m} z => by
    obtain ⟨o, es, ep, e, d, r⟩ := z
    exact ⟨o, es, ep, hidT_get e (dictFree e d), d, r⟩
  have Kb : K.In (hidT s₁.heap H) := fun b o e => hidT_get (KX b o e) (by
    cases q : H b with
    | none => rfl
    | some u =>
      obtain ⟨rfl, z, _⟩ := S.at_ b u q
      rw [z] at e
      cases e)
  obtain ⟨mc, l1, l2⟩ := hlim
  have env : Env0 P w K mg (hidT s₁.heap H) callerA [] s₁ H := by
    refine ⟨rfl, ⟨Kb, ns_ hns, ⟨mb, ns_ hb, hbb⟩, ⟨mc, ns_ l1, l2⟩⟩, fun b o e => of_hidT e, Nat.le_of_eq (hidT_size _ _), trivial, fun b z => ?_, S.ok, .of_eq hg⟩
    exact absurd (show b ∈ ([] : List Addr) from z) (by simp)
  have run := (F (hidT s₁.heap H)).run callerA [] s₁ H [.ref a] [.ref a] (fun v _ => v = .bl true) rfl hr env (hbind s₁ _) (.cons rfl .nil) ⟨a, ns, rfl, S.sq, hbits, fun _ => rfl⟩
  refine codeAny_mono run fun r s' h => ?_
  match r, h with
  | .error _, h => exact False.elim h
  | .ok .next, h => exact False.elim h
  | .ok .brk, h => exact False.elim h
  | .ok .cont, h => exact False.elim h
  | .ok (.ret u), ⟨v, H', os, bare, un, ok', rv, ev⟩ =>
    have ev : v = .bl true := ev
    subst ev
    have eu : u = Value.bool true := rv
    subst eu
    refine ⟨rfl, OldK.of_keep fun b o e => ?_, os, bare⟩
    cases q : H b with
    | none => exact un.keep b o e q (fun z => absurd (show b ∈ ([] : List Addr) from z) (by simp)) (by simp)
    | some u =>
      obtain ⟨_, _, o2, xs, rfl⟩ := S.at_ b u q
      obtain ⟨e1, _⟩ := S.ok b _ q
      obtain ⟨e2, _⟩ := ok' b _ (un.frzs b o2 _ q)
      rw [e] at e1
      cases e1
      exact e2
end
end K32

set_option maxRecDepth 100000
set_option maxHeartbeats 0
namespace K32
open PySem PySem.Spec PyProof.Rows L2
theorem walk_law : PySem.W.WalkO (PySem.W.view R.prog [107]) loose (PySem.W.XL (PySem.W.view R.prog [107]) []) hk.says R.toRowW (HandSHeadRun.topDef R.prog 107) [] fun f vs => PySem.call f vs := by
  refine Att.attach_callB (l := PySem.Challenge.rw_selfprint_k32_whole_steps_made) (n := 63) rfl law_bare fun w s₀ s₁ mg mb fa o pm cd doc a vs ns G Y ho hd hcd hmg hobj hints hlen hbits hg => ?_
  obtain ⟨K, KX, c⟩ := Y
  have T : Tx w K mg := ⟨⟨_, KX, G.T.g⟩, c⟩
  rw [law_name, g_law T] at hmg
  cases hmg
  obtain ⟨fd, F⟩ := f_law T
  have hb := FunD.bindsA (ps := ["_law_script"]) F fun _ _ _ _ _ _ us hl => match us, hl with | [_], _ => rfl
  exact call_law KX G.T.g G.T.b G.T.builtins G.T.nolimit hg hobj hints (Nat.le_trans hlen (by decide)) hbits (k := 205) ⟨rfl, by decide, by decide⟩ (fun base => ok_law T F) fun s u => hb s [u] rfl
end K32
open PySem PySem.W PySem.Calls PyProof.Rows
theorem PySem.Challenge.cw_selfprint_k32_whole_steps_made_holds : PySem.Challenge.rw_selfprint_k32_whole_steps_made.Holds := by
  w_on; o_law
  exact K32.head_k32 K32.walk_law

