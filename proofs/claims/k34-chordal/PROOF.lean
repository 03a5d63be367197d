import PyProof.Rows.All
import Wide.All
import OpenK.AllK
import Wide.FinOn
import KE.KStateDown
import HandS.Base
import HandS.Call
import HandS.Ends
import HandS.More
import HandS.Words
import HandS.WordsExc
import HandS.Defaults
import HandS.Head0
import HandS.Head1
import HandS.Head2
import HandS.HeadEnd
import HandS.HeadHook1
import HandS.HeadHook2
import KE.DataMinMax
import KE.GoesEnum
import KE.GoesMore
import HandS.ForMost
import HandS.Evl
import HandS.Deep
import HandS.Zip
import HandS.SetFor
import HandS.SortInts
import HandS.SortRule
import HandS.TupAny
import HandS.TupLe
import HandS.Star
import HandS.Codes
import HandS.Conv
import HandS.IsInst
import HandS.Style
import HandS.Remove
import PySem.Challenge.RW_trellis_k34_chordal_graphs
set_option Elab.async false
set_option linter.all false
set_option maxRecDepth 100000
set_option maxHeartbeats 0
namespace Tr
open PySem PySem.W PySem.Calls PyProof.Rows
abbrev pr0 : Program := PySem.Challenge.rw_trellis_k34_chordal_graphs.row.prog
abbrev lw0 : OpenLaw := PySem.Challenge.rw_trellis_k34_chordal_graphs
theorem lo_res : namesResolve pr0 = true := by k_qdec
theorem strict0 : (!(importedModules pr0.main.body).all cThrough.contains) = false := by kernel_rfl
theorem ro1 : readsOut pr0 pr0.main.body "vars" = false := by kernel_rfl
theorem ro2 : readsOut pr0 pr0.main.body "dir" = false := by kernel_rfl
theorem ro3 : readsOut pr0 pr0.main.body "locals" = false := by kernel_rfl
theorem bare0 : (["vars", "dir", "locals"] : List PySem.Str).filter (readsOut pr0 pr0.main.body) = [] := by
  rw [List.filter_cons, ro1, List.filter_cons, ro2, List.filter_cons, ro3]
  rfl
end Tr
namespace Tr
open PySem PySem.W PySem.Calls PyProof.Rows
theorem nrLit : noRoadLSs { strict := false, foot := none, bare := [] } pr0.main.body = true := by k_qdec
theorem nrAll : noRoadLSs { strict := !(importedModules pr0.main.body).all cThrough.contains, foot := none, bare := (["vars", "dir", "locals"] : List Str).filter (readsOut pr0 pr0.main.body) } pr0.main.body = true :=
  (congr (congrArg (fun (a : Bool) (b : List Str) => noRoadLSs { strict := a, foot := none, bare := b } pr0.main.body) strict0) bare0).trans nrLit
end Tr
namespace Tr
open PySem PySem.W PySem.Calls PyProof.Rows
theorem lo_at : (namesMeet pr0 pr0.main.body fun _ n => attrL n) = true := by k_qdec
theorem lo_sre : sreFenced pr0.main = true := by kernel_rfl
theorem lo_mod : ((moduleNames pr0.main.body).isEmpty || lookedIntoSs (moduleNames pr0.main.body) pr0.main.body) = true := by kernel_rfl
theorem lo_bn : (pr0.boundNames.all fun n => !worldNames.contains n) = true := by k_qdec
theorem lo_all : looksOpen pr0 = true := look_both (look_both (look_both (look_both (look_both lo_sre lo_mod) lo_res) lo_bn) nrAll) lo_at
end Tr
namespace Tr
open PySem PySem.W PySem.Calls PyProof.Rows
theorem part0 : (OpenLaw.row lw0).partSaid = true := by
  unfold OpenRow.partSaid
  repeat' with_reducible refine look_both ?_ ?_
  all_goals first | with_reducible exact lo_all | k_qdec | kernel_rfl
theorem row0 : (OpenLaw.row lw0).wellSaid = true := by
  unfold OpenRow.wellSaid
  repeat' with_reducible refine look_both ?_ ?_
  all_goals first | with_reducible exact part0 | k_qdec | kernel_rfl
theorem said0 : OpenLaw.wellSaid lw0 = true := by
  unfold OpenLaw.wellSaid
  repeat' with_reducible refine look_both ?_ ?_
  all_goals first | with_reducible exact row0 | k_qdec | kernel_rfl
theorem first0 (h : (OpenLaw.row lw0).wellSaid = true → (OpenLaw.row lw0).Holds) : lw0.Holds := holds_law said0 h
end Tr
namespace Tr
open PySem PySem.Spec PyProof.Rows L2
def top (i : Nat) : Stmt := PySem.Challenge.pw_trellis_k34_chordal_graphs.main.body.getD i (.Pass ⟨0, 0, 0, 0⟩)
abbrev s_is_integer : Stmt := top 6
abbrev s_is_integer_tuple : Stmt := top 7
abbrev s_pair_of : Stmt := top 10
abbrev s_are_neighbours : Stmt := top 12
abbrev s_neighbours : Stmt := top 13
abbrev s_is_vertex_tuple : Stmt := top 23
abbrev s_is_order : Stmt := top 25
abbrev s_is_clique : Stmt := top 32
abbrev s_is_path : Stmt := top 36
abbrev s_is_cycle : Stmt := top 38
abbrev s_shortest_path : Stmt := top 39
abbrev s_behind : Stmt := top 48
abbrev s_has_no_chord : Stmt := top 72
abbrev s_is_hole : Stmt := top 73
abbrev s_check_chordal : Stmt := top 74
abbrev s_find_hole : Stmt := top 88
abbrev s_clique_order : Stmt := top 89
abbrev s_decide_chordal : Stmt := top 90
abbrev s_is_question : Stmt := top 185
abbrev s_check_question : Stmt := top 186
abbrev s_decide_plain : Stmt := top 221
abbrev s_decide : Stmt := top 223
abbrev s_check_plain : Stmt := top 225
abbrev s_check : Stmt := top 227
abbrev s_law_pool : Stmt := top 229
abbrev s_law_spread : Stmt := top 230
abbrev s_law_draw : Stmt := top 231
abbrev s_law_is_int : Stmt := top 232
abbrev s_law_distinct : Stmt := top 233
abbrev s_law_pairs : Stmt := top 234
abbrev s_law_of : Stmt := top 235
abbrev s_law_met : Stmt := top 236
abbrev s_law_near : Stmt := top 237
abbrev s_law_shuffled : Stmt := top 238
abbrev s_law_moved : Stmt := top 239
abbrev s_law_other : Stmt := top 240
abbrev s_law_random_graph : Stmt := top 241
abbrev s_law_interval_rows : Stmt := top 242
abbrev s_law_interval_graph : Stmt := top 243
abbrev s_law_turned_graph : Stmt := top 244
abbrev s_law_ordered_graph : Stmt := top 245
abbrev s_law_clique_graph : Stmt := top 246
abbrev s_law_drawn_tree : Stmt := top 247
abbrev s_law_leaves : Stmt := top 248
abbrev s_law_tree_pairs : Stmt := top 249
abbrev s_law_graph : Stmt := top 250
abbrev s_law_subsets : Stmt := top 251
abbrev s_law_is_row : Stmt := top 252
abbrev s_law_is_way : Stmt := top 253
abbrev s_law_bare : Stmt := top 254
abbrev s_law_is_hole : Stmt := top 255
abbrev s_law_ring_of : Stmt := top 256
abbrev s_law_holes : Stmt := top 257
abbrev s_law_chordal_right : Stmt := top 258
abbrev s_law_ringed : Stmt := top 259
abbrev s_law : Stmt := top 260
def mkD (x : Str) (i : Nat) : He.DefD := ⟨(x, none), x, x, defArgs (top i), defBody (top i), defScope (top i), [], []⟩
def fn : List He.DefD := [mkD "is_integer" 6, mkD "is_integer_tuple" 7, mkD "pair_of" 10, mkD "are_neighbours" 12, mkD "neighbours" 13, mkD "is_vertex_tuple" 23, mkD "is_order" 25, mkD "is_clique" 32, mkD "is_path" 36, mkD "is_cycle" 38, mkD "shortest_path" 39, mkD "behind" 48, mkD "has_no_chord" 72, mkD "is_hole" 73, mkD "check_chordal" 74, mkD "find_hole" 88, mkD "clique_order" 89, mkD "decide_chordal" 90, mkD "is_question" 185, mkD "check_question" 186, mkD "decide_plain" 221, mkD "decide" 223, mkD "check_plain" 225, mkD "check" 227, mkD "_law_pool" 229, mkD "_law_spread" 230, mkD "_law_draw" 231, mkD "_law_is_int" 232, mkD "_law_distinct" 233, mkD "_law_pairs" 234, mkD "_law_of" 235, mkD "_law_met" 236, mkD "_law_near" 237, mkD "_law_shuffled" 238, mkD "_law_moved" 239, mkD "_law_other" 240, mkD "_law_random_graph" 241, mkD "_law_interval_rows" 242, mkD "_law_interval_graph" 243, mkD "_law_turned_graph" 244, mkD "_law_ordered_graph" 245, mkD "_law_clique_graph" 246, mkD "_law_drawn_tree" 247, mkD "_law_leaves" 248, mkD "_law_tree_pairs" 249, mkD "_law_graph" 250, mkD "_law_subsets" 251, mkD "_law_is_row" 252, mkD "_law_is_way" 253, mkD "_law_bare" 254, mkD "_law_is_hole" 255, mkD "_law_ring_of" 256, mkD "_law_holes" 257, mkD "_law_chordal_right" 258, mkD "_law_ringed" 259, mkD "law" 260]
def fa : List He.Fa := [.glo "is_integer", .glo "is_integer_tuple", .glo "pair_of", .glo "are_neighbours", .glo "neighbours", .glo "is_vertex_tuple", .glo "is_order", .glo "is_clique", .glo "is_path", .glo "is_cycle", .glo "shortest_path", .glo "behind", .glo "has_no_chord", .glo "is_hole", .glo "check_chordal", .glo "find_hole", .glo "clique_order", .glo "decide_chordal", .glo "is_question", .glo "check_question", .glo "decide_plain", .glo "decide", .glo "check_plain", .glo "check", .glo "_law_pool", .glo "_law_spread", .glo "_law_draw", .glo "_law_is_int", .glo "_law_distinct", .glo "_law_pairs", .glo "_law_of", .glo "_law_met", .glo "_law_near", .glo "_law_shuffled", .glo "_law_moved", .glo "_law_other", .glo "_law_random_graph", .glo "_law_interval_rows", .glo "_law_interval_graph", .glo "_law_turned_graph", .glo "_law_ordered_graph", .glo "_law_clique_graph", .glo "_law_drawn_tree", .glo "_law_leaves", .glo "_law_tree_pairs", .glo "_law_graph", .glo "_law_subsets", .glo "_law_is_row", .glo "_law_is_way", .glo "_law_bare", .glo "_law_is_hole", .glo "_law_ring_of", .glo "_law_holes", .glo "_law_chordal_right", .glo "_law_ringed", .glo "law", .free "all", .free "bool", .free "enumerate", .free "int", .free "isinstance", .free "len", .free "list", .free "max", .free "min", .free "range", .free "set", .free "sorted", .free "str", .free "tuple", .free "zip", .glo "PLAIN_KINDS"]
def nm0 : List PySem.Str := [("TrellisError" : PySem.Str), ("BadGraph" : PySem.Str), ("BadQuestion" : PySem.Str), ("MOST_VERTICES" : PySem.Str), ("is_integer" : PySem.Str), ("is_integer_tuple" : PySem.Str), ("is_ascending" : PySem.Str), ("is_graph" : PySem.Str), ("pair_of" : PySem.Str), ("made_graph" : PySem.Str), ("are_neighbours" : PySem.Str), ("neighbours" : PySem.Str), ("inside" : PySem.Str), ("part_of" : PySem.Str), ("parts_of" : PySem.Str), ("components" : PySem.Str), ("is_connected" : PySem.Str), ("complement" : PySem.Str), ("induced" : PySem.Str), ("renamed" : PySem.Str)]
def nm1 : List PySem.Str := [("is_vertex_tuple" : PySem.Str), ("is_set" : PySem.Str), ("is_order" : PySem.Str), ("is_edge" : PySem.Str), ("is_arrow" : PySem.Str), ("is_tuple_of" : PySem.Str), ("are_sets" : PySem.Str), ("are_edges" : PySem.Str), ("is_direction" : PySem.Str), ("is_clique" : PySem.Str), ("is_split" : PySem.Str), ("is_small_integer" : PySem.Str), ("is_path" : PySem.Str), ("is_path_between" : PySem.Str), ("is_cycle" : PySem.Str), ("shortest_path" : PySem.Str), ("without_edge" : PySem.Str), ("shortest_cycle" : PySem.Str), ("connects_all" : PySem.Str), ("is_spanning_tree" : PySem.Str)]
def nm2 : List PySem.Str := [("crosses" : PySem.Str), ("check_connected" : PySem.Str), ("check_bipartite" : PySem.Str), ("behind" : PySem.Str), ("check_forest" : PySem.Str), ("are_ears" : PySem.Str), ("check_block" : PySem.Str), ("are_apart" : PySem.Str), ("check_linked" : PySem.Str), ("components_without" : PySem.Str), ("merged" : PySem.Str), ("is_colour_search" : PySem.Str), ("check_colours" : PySem.Str), ("is_set_search" : PySem.Str), ("check_independent" : PySem.Str), ("matching_bound" : PySem.Str), ("check_matching" : PySem.Str), ("near_with_degree" : PySem.Str), ("PairingChecker" : PySem.Str), ("check_isomorphic" : PySem.Str)]
def nm3 : List PySem.Str := [("fits" : PySem.Str), ("pairings" : PySem.Str), ("PairingFinder" : PySem.Str), ("decide_isomorphic" : PySem.Str), ("has_no_chord" : PySem.Str), ("is_hole" : PySem.Str), ("check_chordal" : PySem.Str), ("is_interval" : PySem.Str), ("do_meet" : PySem.Str), ("is_asteroid" : PySem.Str), ("check_interval" : PySem.Str), ("forces" : PySem.Str), ("is_chain" : PySem.Str), ("is_transitive" : PySem.Str), ("check_comparability" : PySem.Str), ("check_permutation" : PySem.Str), ("leaves_of" : PySem.Str), ("joined_pairs" : PySem.Str), ("check_cograph" : PySem.Str), ("find_hole" : PySem.Str)]
def nm4 : List PySem.Str := [("clique_order" : PySem.Str), ("decide_chordal" : PySem.Str), ("largest_cliques" : PySem.Str), ("are_together" : PySem.Str), ("clique_row" : PySem.Str), ("may_go_on" : PySem.Str), ("asteroid" : PySem.Str), ("decide_interval" : PySem.Str), ("all_arrows" : PySem.Str), ("forced_arrows" : PySem.Str), ("forcing_ways" : PySem.Str), ("arrow_classes" : PySem.Str), ("find_chain" : PySem.Str), ("transitive_direction" : PySem.Str), ("decide_comparability" : PySem.Str), ("row_of" : PySem.Str), ("decide_permutation" : PySem.Str), ("search_tree" : PySem.Str), ("decide_connected" : PySem.Str), ("way_up" : PySem.Str)]
def nm5 : List PySem.Str := [("ring" : PySem.Str), ("decide_bipartite" : PySem.Str), ("stripped" : PySem.Str), ("decide_forest" : PySem.Str), ("cut_of" : PySem.Str), ("next_ear" : PySem.Str), ("decide_block" : PySem.Str), ("PathSystem" : PySem.Str), ("decide_linked" : PySem.Str), ("next_arrow" : PySem.Str), ("faces" : PySem.Str), ("block_sets" : PySem.Str), ("blocks" : PySem.Str), ("is_rotation" : PySem.Str), ("is_flat" : PySem.Str), ("are_lines" : PySem.Str), ("all_pairs" : PySem.Str), ("sided_pairs" : PySem.Str), ("is_star" : PySem.Str), ("check_planar" : PySem.Str)]
def nm6 : List PySem.Str := [("do_cross" : PySem.Str), ("check_outerplanar" : PySem.Str), ("Piece" : PySem.Str), ("Drawer" : PySem.Str), ("block_rotation" : PySem.Str), ("flat_rotation" : PySem.Str), ("ring_order" : PySem.Str), ("least_part" : PySem.Str), ("lines_between" : PySem.Str), ("star" : PySem.Str), ("sided" : PySem.Str), ("decide_planar" : PySem.Str), ("decide_outerplanar" : PySem.Str), ("two_star" : PySem.Str), ("are_links" : PySem.Str), ("is_decomposition" : PySem.Str), ("width_of" : PySem.Str), ("filled" : PySem.Str), ("from_order" : PySem.Str), ("order_width" : PySem.Str)]
def nm7 : List PySem.Str := [("touch" : PySem.Str), ("hits" : PySem.Str), ("sets_of" : PySem.Str), ("hitting_set" : PySem.Str), ("is_bramble" : PySem.Str), ("check_width" : PySem.Str), ("best_matching" : PySem.Str), ("largest_matching" : PySem.Str), ("barrier" : PySem.Str), ("decide_matching" : PySem.Str), ("splits" : PySem.Str), ("is_growing" : PySem.Str), ("is_module" : PySem.Str), ("check_prime" : PySem.Str), ("least_module" : PySem.Str), ("overlap" : PySem.Str), ("strong_modules" : PySem.Str), ("largest_within" : PySem.Str), ("tree_of" : PySem.Str), ("module_tree" : PySem.Str)]
def nm8 : List PySem.Str := [("bare_paths" : PySem.Str), ("decide_cograph" : PySem.Str), ("decide_prime" : PySem.Str), ("growth" : PySem.Str), ("PLAIN_KINDS" : PySem.Str), ("NUMBER_KINDS" : PySem.Str), ("is_number" : PySem.Str), ("is_vertex" : PySem.Str), ("is_question" : PySem.Str), ("check_question" : PySem.Str), ("colouring" : PySem.Str), ("clique_in" : PySem.Str), ("common_neighbours" : PySem.Str), ("colour_search" : PySem.Str), ("decide_colours" : PySem.Str), ("is_apart" : PySem.Str), ("apart_set" : PySem.Str), ("cover" : PySem.Str), ("set_search" : PySem.Str), ("decide_independent" : PySem.Str)]
def nm9 : List PySem.Str := [("check_degenerate" : PySem.Str), ("check_indegree" : PySem.Str), ("is_acyclic" : PySem.Str), ("check_forests" : PySem.Str), ("crossing_edges" : PySem.Str), ("check_trees" : PySem.Str), ("decide_degenerate" : PySem.Str), ("tails" : PySem.Str), ("turned" : PySem.Str), ("relieving_way" : PySem.Str), ("decide_indegree" : PySem.Str), ("ForestPacker" : PySem.Str), ("set_of_edges" : PySem.Str), ("decide_forests" : PySem.Str), ("decide_trees" : PySem.Str), ("OrderFinder" : PySem.Str), ("BrambleFinder" : PySem.Str), ("least_order" : PySem.Str), ("decide_width" : PySem.Str), ("decide_plain" : PySem.Str)]
def nm10 : List PySem.Str := [("decide_numbered" : PySem.Str), ("decide" : PySem.Str), ("check_plain" : PySem.Str), ("check_numbered" : PySem.Str), ("check" : PySem.Str), ("_law_pool" : PySem.Str), ("_law_spread" : PySem.Str), ("_law_draw" : PySem.Str), ("_law_is_int" : PySem.Str), ("_law_distinct" : PySem.Str), ("_law_pairs" : PySem.Str), ("_law_of" : PySem.Str), ("_law_met" : PySem.Str), ("_law_near" : PySem.Str), ("_law_shuffled" : PySem.Str), ("_law_moved" : PySem.Str), ("_law_other" : PySem.Str), ("_law_random_graph" : PySem.Str), ("_law_interval_rows" : PySem.Str), ("_law_interval_graph" : PySem.Str)]
def nm11 : List PySem.Str := [("_law_turned_graph" : PySem.Str), ("_law_ordered_graph" : PySem.Str), ("_law_clique_graph" : PySem.Str), ("_law_drawn_tree" : PySem.Str), ("_law_leaves" : PySem.Str), ("_law_tree_pairs" : PySem.Str), ("_law_graph" : PySem.Str), ("_law_subsets" : PySem.Str), ("_law_is_row" : PySem.Str), ("_law_is_way" : PySem.Str), ("_law_bare" : PySem.Str), ("_law_is_hole" : PySem.Str), ("_law_ring_of" : PySem.Str), ("_law_holes" : PySem.Str), ("_law_chordal_right" : PySem.Str), ("_law_ringed" : PySem.Str)]
def names : List PySem.Str := nm0 ++ nm1 ++ nm2 ++ nm3 ++ nm4 ++ nm5 ++ nm6 ++ nm7 ++ nm8 ++ nm9 ++ nm10 ++ nm11
namespace Hd
noncomputable section
open PySem.W PySem.Calls HandSHeadRun
abbrev z (x : String) : PySem.Str := PySem.Str.ofString x
abbrev s_ (x : String) (t : Nat) : Value := .str (.ofString x) t
abbrev r_ (a : Nat) : Value := .ref a
abbrev n_ : Value := .none
abbrev a_ {al : Type} (l : List al) : Array al := ⟨l⟩
abbrev e_ (w : World) (k : String) (t : Nat) (v : Value) : DictEntry := ⟨hashStr w (.ofString k), .str (.ofString k) t, v⟩
abbrev f_ (st : Stmt) (nm qn : String) (g : Addr) (d kd doc md : Value) (an : Option Addr) (code ct : Value) (b : Addr) : Data := .func ⟨.ofString nm, .ofString qn, defArgs st, .stmts (defBody st), defScope st, g, [], d, kd, doc, md, an, code, ct, b⟩
def insL : List (Nat × Obj) → BT → BT
  | [], t => t
  | p :: r, t => insL r (t.ins p.1 p.2)
/-! the boot's heap as a tree -/
def tr0 (w : World) : BT := match putAll (boot_heap w.params).objs.toList .nil 0 with
  | some r => r.1
  | none => .nil
def nw0_0 (w : World) : List (Nat × Obj) := [
  (11, ⟨(.type "tuple"), none, (.seq (a_ []) 0), a_ []⟩),
  (12, ⟨n_, none, (.fields (a_ [])), a_ []⟩),
  (13, ⟨(.type "code"), none, (.fields (a_ ([(s_ "<module>" 182), (s_ "<module>" 183), (s_ "/claim/cut.py" 184), (.int 1 0), (.int 0 0), (.int 0 0), (.int 0 0), (.int 0 0), (r_ 11), (.bool false), (.int 181 0), (r_ 12), n_, n_, n_, n_, (.int 185 0), (.int 1 0), (s_ "/claim/cut.py" 186)]))), a_ []⟩),
  (14, ⟨(.type "frame"), none, .plain, a_ ([some (r_ 13), some (r_ 3), some (r_ 3), none, some (s_ "__main__" 164), none, some (r_ 0)])⟩)]
def tr1 (w : World) : BT := insL (nw0_0 w) (tr0 w)
def nw1_0 (w : World) : List (Nat × Obj) := [
  (3, ⟨(.type "dict"), none, (.dict (a_ ([e_ w "__name__" 165 (s_ "trellis.alike" 699), e_ w "__doc__" 166 n_, e_ w "__package__" 167 n_, e_ w "__loader__" 168 (.builtin "__main__.__loader__#opaque"), e_ w "__spec__" 169 n_, e_ w "__annotations__" 170 (r_ 6), e_ w "__builtins__" 171 (r_ 4), e_ w "__file__" 173 (s_ "/claim/cut.py" 172), e_ w "__cached__" 174 n_, e_ w "TrellisError" 206 (r_ 24), e_ w "BadGraph" 222 (r_ 37), e_ w "BadQuestion" 238 (r_ 49), e_ w "MOST_VERTICES" 242 (.int 60 241), e_ w "is_integer" 249 (r_ 58), e_ w "is_integer_tuple" 255 (r_ 63), e_ w "is_ascending" 261 (r_ 68), e_ w "is_graph" 271 (r_ 75), e_ w "pair_of" 279 (r_ 82), e_ w "made_graph" 290 (r_ 89), e_ w "are_neighbours" 299 (r_ 96), e_ w "neighbours" 305 (r_ 101), e_ w "inside" 311 (r_ 106), e_ w "part_of" 324 (r_ 113), e_ w "parts_of" 330 (r_ 118), e_ w "components" 337 (r_ 125), e_ w "is_connected" 345 (r_ 132), e_ w "complement" 351 (r_ 137), e_ w "induced" 357 (r_ 142), e_ w "renamed" 363 (r_ 147), e_ w "is_vertex_tuple" 371 (r_ 152)] ++ [e_ w "is_set" 379 (r_ 159), e_ w "is_order" 387 (r_ 166), e_ w "is_edge" 395 (r_ 173), e_ w "is_arrow" 403 (r_ 180), e_ w "is_tuple_of" 411 (r_ 187), e_ w "are_sets" 417 (r_ 192), e_ w "are_edges" 423 (r_ 197), e_ w "is_direction" 429 (r_ 202), e_ w "is_clique" 435 (r_ 207), e_ w "is_split" 443 (r_ 214), e_ w "is_small_integer" 451 (r_ 221), e_ w "is_path" 459 (r_ 226), e_ w "is_path_between" 469 (r_ 233), e_ w "is_cycle" 477 (r_ 240), e_ w "shortest_path" 492 (r_ 247), e_ w "without_edge" 498 (r_ 252), e_ w "shortest_cycle" 508 (r_ 259), e_ w "connects_all" 518 (r_ 266), e_ w "is_spanning_tree" 526 (r_ 273), e_ w "crosses" 534 (r_ 280), e_ w "check_connected" 540 (r_ 285), e_ w "check_bipartite" 546 (r_ 290), e_ w "behind" 552 (r_ 295), e_ w "check_forest" 558 (r_ 300), e_ w "are_ears" 564 (r_ 305), e_ w "check_block" 570 (r_ 310), e_ w "are_apart" 576 (r_ 315), e_ w "check_linked" 582 (r_ 320), e_ w "components_without" 588 (r_ 325), e_ w "merged" 596 (r_ 330)] ++ [e_ w "is_colour_search" 602 (r_ 335), e_ w "check_colours" 608 (r_ 340), e_ w "is_set_search" 614 (r_ 345), e_ w "check_independent" 620 (r_ 350), e_ w "matching_bound" 626 (r_ 355), e_ w "check_matching" 632 (r_ 360), e_ w "near_with_degree" 638 (r_ 365), e_ w "PairingChecker" 688 (r_ 394), e_ w "check_isomorphic" 698 (r_ 405), e_ w "fits" 706 (r_ 410), e_ w "pairings" 717 (r_ 417), e_ w "PairingFinder" 767 (r_ 446)])) 72), a_ []⟩),
  (12, ⟨n_, none, (.fields (a_ ([(.int 2 0), (.int 0 0), (r_ 20), (.int 4 0), (.int 0 0), (r_ 33), (.int 6 0), (.int 0 0), (r_ 45), (.int 10 0), (.int 0 0), (r_ 57), (.int 12 0), (.int 0 0), (r_ 62), (.int 14 0), (.int 0 0), (r_ 67), (.int 16 0), (.int 0 0), (r_ 74), (.int 26 0), (.int 0 0), (r_ 81), (.int 28 0), (.int 0 0), (r_ 88), (.int 37 0), (.int 0 0), (r_ 95)] ++ [(.int 39 0), (.int 0 0), (r_ 100), (.int 41 0), (.int 0 0), (r_ 105), (.int 43 0), (.int 0 0), (r_ 112), (.int 53 0), (.int 0 0), (r_ 117), (.int 59 0), (.int 0 0), (r_ 124), (.int 61 0), (.int 0 0), (r_ 131), (.int 63 0), (.int 0 0), (r_ 136), (.int 66 0), (.int 0 0), (r_ 141), (.int 70 0), (.int 0 0), (r_ 146), (.int 73 0), (.int 0 0), (r_ 151)] ++ [(.int 77 0), (.int 0 0), (r_ 158), (.int 79 0), (.int 0 0), (r_ 165), (.int 81 0), (.int 0 0), (r_ 172), (.int 83 0), (.int 0 0), (r_ 179), (.int 87 0), (.int 0 0), (r_ 186), (.int 89 0), (.int 0 0), (r_ 191), (.int 91 0), (.int 0 0), (r_ 196), (.int 93 0), (.int 0 0), (r_ 201), (.int 97 0), (.int 0 0), (r_ 206), (.int 99 0), (.int 0 0), (r_ 213)] ++ [(.int 101 0), (.int 0 0), (r_ 220), (.int 104 0), (.int 0 0), (r_ 225), (.int 108 0), (.int 0 0), (r_ 232), (.int 110 0), (.int 0 0), (r_ 239), (.int 112 0), (.int 0 0), (r_ 246), (.int 128 0), (.int 0 0), (r_ 251), (.int 130 0), (.int 0 0), (r_ 258), (.int 138 0), (.int 0 0), (r_ 265), (.int 140 0), (.int 0 0), (r_ 272), (.int 142 0), (.int 0 0), (r_ 279)] ++ [(.int 144 0), (.int 0 0), (r_ 284), (.int 150 0), (.int 0 0), (r_ 289), (.int 154 0), (.int 0 0), (r_ 294), (.int 157 0), (.int 0 0), (r_ 299), (.int 161 0), (.int 0 0), (r_ 304), (.int 172 0), (.int 0 0), (r_ 309), (.int 185 0), (.int 0 0), (r_ 314), (.int 188 0), (.int 0 0), (r_ 319), (.int 198 0), (.int 0 0), (r_ 324), (.int 201 0), (.int 0 0), (r_ 329)] ++ [(.int 204 0), (.int 0 0), (r_ 334), (.int 218 0), (.int 0 0), (r_ 339), (.int 224 0), (.int 0 0), (r_ 344), (.int 236 0), (.int 0 0), (r_ 349), (.int 242 0), (.int 0 0), (r_ 354), (.int 245 0), (.int 0 0), (r_ 359), (.int 252 0), (.int 0 0), (r_ 364), (.int 254 0), (.int 0 0), (r_ 371), (.int 283 0), (.int 0 0), (r_ 404), (.int 290 0), (.int 0 0), (r_ 409)] ++ [(.int 293 0), (.int 0 0), (r_ 416), (.int 301 0), (.int 0 0), (r_ 423)]))), a_ []⟩),
  (15, ⟨(.type "tuple"), none, (.seq (a_ ([(.type "ValueError")])) 0), a_ []⟩),
  (16, ⟨(.type "builtin_function_or_method"), none, (.fields (a_ ([(.builtin "type.__prepare__"), (.type "type")]))), a_ []⟩),
  (17, ⟨(.type "dict"), none, (.dict (a_ ([e_ w "__module__" 196 (s_ "trellis.errors" 187), e_ w "__qualname__" 198 (s_ "TrellisError" 197), e_ w "__firstlineno__" 200 (.int 2 199), e_ w "__static_attributes__" 201 (r_ 22)])) 4), a_ []⟩),
  (18, ⟨(.type "tuple"), none, (.seq (a_ []) 0), a_ []⟩),
  (19, ⟨n_, none, (.fields (a_ [])), a_ []⟩),
  (20, ⟨(.type "code"), none, (.fields (a_ ([(s_ "TrellisError" 191), (s_ "TrellisError" 192), (s_ "/claim/cut.py" 193), (.int 2 0), (.int 0 0), (.int 0 0), (.int 0 0), (.int 0 0), (r_ 18), (.bool false), (.int 181 0), (r_ 19), n_, n_, n_, n_, (.int 194 0), (.int 2 0), (s_ "/claim/cut.py" 195)]))), a_ []⟩),
  (21, ⟨(.type "frame"), none, .plain, a_ ([some (r_ 20), some (r_ 3), some (r_ 17), none, some (s_ "trellis.errors" 187), none, some (r_ 0)])⟩),
  (22, ⟨(.type "tuple"), none, (.seq (a_ []) 0), a_ []⟩),
  (23, ⟨(.type "dict"), none, (.dict (a_ ([e_ w "__module__" 196 (s_ "trellis.errors" 187), e_ w "__firstlineno__" 200 (.int 2 199), e_ w "__static_attributes__" 201 (r_ 22), e_ w "__weakref__" 203 (r_ 25), e_ w "__doc__" 204 n_])) 3), a_ []⟩),
  (24, ⟨(.type "type"), none, (.cls ⟨(z "TrellisError"), ([(.type "ValueError")]), ([(r_ 24), (.type "ValueError"), (.type "Exception"), (.type "BaseException"), (.type "object")]), 23, (z "TrellisError"), true, [], ([(r_ 37), (r_ 49)]), false, none, false⟩), a_ ([some (r_ 15), none, some (s_ "TrellisError" 189), some (s_ "TrellisError" 197), some (.builtin "ValueError.__new__"), some (.bool true)])⟩),
  (25, ⟨(.type "getset_descriptor"), none, (.fields (a_ ([(s_ "__weakref__" 202), (r_ 24), (.builtin "ExceptionGroup.__weakref__"), n_]))), a_ []⟩),
  (26, ⟨(.type "super"), none, (.fields (a_ ([(r_ 24), (r_ 24), (r_ 24)]))), a_ []⟩),
  (27, ⟨(.type "builtin_function_or_method"), none, (.fields (a_ ([(.builtin "object.__init_subclass__"), (r_ 24)]))), a_ []⟩),
  (28, ⟨(.type "tuple"), none, (.seq (a_ ([(r_ 24)])) 0), a_ []⟩),
  (29, ⟨(.type "builtin_function_or_method"), none, (.fields (a_ ([(.builtin "type.__prepare__"), (.type "type")]))), a_ []⟩),
  (30, ⟨(.type "dict"), none, (.dict (a_ ([e_ w "__module__" 214 (s_ "trellis.errors" 187), e_ w "__qualname__" 216 (s_ "BadGraph" 215), e_ w "__firstlineno__" 218 (.int 4 217), e_ w "__static_attributes__" 219 (r_ 35)])) 4), a_ []⟩),
  (31, ⟨(.type "tuple"), none, (.seq (a_ []) 0), a_ []⟩),
  (32, ⟨n_, none, (.fields (a_ [])), a_ []⟩),
  (33, ⟨(.type "code"), none, (.fields (a_ ([(s_ "BadGraph" 209), (s_ "BadGraph" 210), (s_ "/claim/cut.py" 211), (.int 4 0), (.int 0 0), (.int 0 0), (.int 0 0), (.int 0 0), (r_ 31), (.bool false), (.int 181 0), (r_ 32), n_, n_, n_, n_, (.int 212 0), (.int 4 0), (s_ "/claim/cut.py" 213)]))), a_ []⟩),
  (34, ⟨(.type "frame"), none, .plain, a_ ([some (r_ 33), some (r_ 3), some (r_ 30), none, some (s_ "trellis.errors" 187), none, some (r_ 0)])⟩),
  (35, ⟨(.type "tuple"), none, (.seq (a_ []) 0), a_ []⟩),
  (36, ⟨(.type "dict"), none, (.dict (a_ ([e_ w "__module__" 214 (s_ "trellis.errors" 187), e_ w "__firstlineno__" 218 (.int 4 217), e_ w "__static_attributes__" 219 (r_ 35), e_ w "__doc__" 220 n_])) 2), a_ []⟩),
  (37, ⟨(.type "type"), none, (.cls ⟨(z "BadGraph"), ([(r_ 24)]), ([(r_ 37), (r_ 24), (.type "ValueError"), (.type "Exception"), (.type "BaseException"), (.type "object")]), 36, (z "BadGraph"), true, [], [], false, none, false⟩), a_ ([some (r_ 28), none, some (s_ "BadGraph" 207), some (s_ "BadGraph" 215), some (.builtin "ValueError.__new__"), some (.bool true)])⟩)]
def nw1_1 (w : World) : List (Nat × Obj) := [
  (38, ⟨(.type "super"), none, (.fields (a_ ([(r_ 37), (r_ 37), (r_ 37)]))), a_ []⟩),
  (39, ⟨(.type "builtin_function_or_method"), none, (.fields (a_ ([(.builtin "object.__init_subclass__"), (r_ 37)]))), a_ []⟩),
  (40, ⟨(.type "tuple"), none, (.seq (a_ ([(r_ 24)])) 0), a_ []⟩),
  (41, ⟨(.type "builtin_function_or_method"), none, (.fields (a_ ([(.builtin "type.__prepare__"), (.type "type")]))), a_ []⟩),
  (42, ⟨(.type "dict"), none, (.dict (a_ ([e_ w "__module__" 230 (s_ "trellis.errors" 187), e_ w "__qualname__" 232 (s_ "BadQuestion" 231), e_ w "__firstlineno__" 234 (.int 6 233), e_ w "__static_attributes__" 235 (r_ 47)])) 4), a_ []⟩),
  (43, ⟨(.type "tuple"), none, (.seq (a_ []) 0), a_ []⟩),
  (44, ⟨n_, none, (.fields (a_ [])), a_ []⟩),
  (45, ⟨(.type "code"), none, (.fields (a_ ([(s_ "BadQuestion" 225), (s_ "BadQuestion" 226), (s_ "/claim/cut.py" 227), (.int 6 0), (.int 0 0), (.int 0 0), (.int 0 0), (.int 0 0), (r_ 43), (.bool false), (.int 181 0), (r_ 44), n_, n_, n_, n_, (.int 228 0), (.int 6 0), (s_ "/claim/cut.py" 229)]))), a_ []⟩),
  (46, ⟨(.type "frame"), none, .plain, a_ ([some (r_ 45), some (r_ 3), some (r_ 42), none, some (s_ "trellis.errors" 187), none, some (r_ 0)])⟩),
  (47, ⟨(.type "tuple"), none, (.seq (a_ []) 0), a_ []⟩),
  (48, ⟨(.type "dict"), none, (.dict (a_ ([e_ w "__module__" 230 (s_ "trellis.errors" 187), e_ w "__firstlineno__" 234 (.int 6 233), e_ w "__static_attributes__" 235 (r_ 47), e_ w "__doc__" 236 n_])) 2), a_ []⟩),
  (49, ⟨(.type "type"), none, (.cls ⟨(z "BadQuestion"), ([(r_ 24)]), ([(r_ 49), (r_ 24), (.type "ValueError"), (.type "Exception"), (.type "BaseException"), (.type "object")]), 48, (z "BadQuestion"), true, [], [], false, none, false⟩), a_ ([some (r_ 40), none, some (s_ "BadQuestion" 223), some (s_ "BadQuestion" 231), some (.builtin "ValueError.__new__"), some (.bool true)])⟩),
  (50, ⟨(.type "super"), none, (.fields (a_ ([(r_ 49), (r_ 49), (r_ 49)]))), a_ []⟩),
  (51, ⟨(.type "builtin_function_or_method"), none, (.fields (a_ ([(.builtin "object.__init_subclass__"), (r_ 49)]))), a_ []⟩),
  (52, ⟨(.type "tuple"), none, (.seq (a_ []) 0), a_ []⟩),
  (53, ⟨n_, none, (.fields (a_ [])), a_ []⟩),
  (54, ⟨(.type "tuple"), none, (.seq (a_ ([(s_ "value" 246)])) 0), a_ []⟩),
  (55, ⟨(.type "tuple"), none, (.seq (a_ []) 0), a_ []⟩),
  (56, ⟨n_, none, (f_ (top 6) "is_integer" "is_integer" 0 n_ n_ n_ n_ none n_ n_ 0), a_ []⟩),
  (57, ⟨(.type "code"), none, (.fields (a_ ([(s_ "is_integer" 243), (s_ "is_integer" 244), (s_ "/claim/cut.py" 245), (.int 10 0), (.int 1 0), (.int 0 0), (.int 0 0), (.int 3 0), (r_ 52), (.bool true), (.int 181 0), (r_ 53), n_, (r_ 54), (r_ 55), (r_ 56), (.int 247 0), (.int 10 0), (s_ "/claim/cut.py" 248)]))), a_ []⟩),
  (58, ⟨(.type "function"), none, (f_ (top 6) "is_integer" "is_integer" 3 n_ n_ n_ (s_ "trellis.graphs" 239) none (r_ 57) n_ 0), a_ []⟩),
  (59, ⟨(.type "tuple"), none, (.seq (a_ []) 0), a_ []⟩),
  (60, ⟨n_, none, (.fields (a_ [])), a_ []⟩),
  (61, ⟨n_, none, (f_ (top 7) "is_integer_tuple" "is_integer_tuple" 0 n_ n_ n_ n_ none n_ n_ 0), a_ []⟩),
  (62, ⟨(.type "code"), none, (.fields (a_ ([(s_ "is_integer_tuple" 250), (s_ "is_integer_tuple" 251), (s_ "/claim/cut.py" 252), (.int 12 0), (.int 1 0), (.int 0 0), (.int 0 0), (.int 3 0), (r_ 59), (.bool true), (.int 181 0), (r_ 60), n_, n_, n_, (r_ 61), (.int 253 0), (.int 12 0), (s_ "/claim/cut.py" 254)]))), a_ []⟩)]
def nw1_2 (w : World) : List (Nat × Obj) := [
  (63, ⟨(.type "function"), none, (f_ (top 7) "is_integer_tuple" "is_integer_tuple" 3 n_ n_ n_ (s_ "trellis.graphs" 239) none (r_ 62) n_ 0), a_ []⟩),
  (64, ⟨(.type "tuple"), none, (.seq (a_ []) 0), a_ []⟩),
  (65, ⟨n_, none, (.fields (a_ [])), a_ []⟩),
  (66, ⟨n_, none, (f_ (top 8) "is_ascending" "is_ascending" 0 n_ n_ n_ n_ none n_ n_ 0), a_ []⟩),
  (67, ⟨(.type "code"), none, (.fields (a_ ([(s_ "is_ascending" 256), (s_ "is_ascending" 257), (s_ "/claim/cut.py" 258), (.int 14 0), (.int 1 0), (.int 0 0), (.int 0 0), (.int 3 0), (r_ 64), (.bool true), (.int 181 0), (r_ 65), n_, n_, n_, (r_ 66), (.int 259 0), (.int 14 0), (s_ "/claim/cut.py" 260)]))), a_ []⟩),
  (68, ⟨(.type "function"), none, (f_ (top 8) "is_ascending" "is_ascending" 3 n_ n_ n_ (s_ "trellis.graphs" 239) none (r_ 67) n_ 0), a_ []⟩),
  (69, ⟨(.type "tuple"), none, (.seq (a_ []) 0), a_ []⟩),
  (70, ⟨n_, none, (.fields (a_ [])), a_ []⟩),
  (71, ⟨(.type "tuple"), none, (.seq (a_ ([(s_ "value" 265), (s_ "n" 266), (s_ "edges" 267), (s_ "edge" 268)])) 0), a_ []⟩),
  (72, ⟨(.type "tuple"), none, (.seq (a_ []) 0), a_ []⟩),
  (73, ⟨n_, none, (f_ (top 9) "is_graph" "is_graph" 0 n_ n_ n_ n_ none n_ n_ 0), a_ []⟩),
  (74, ⟨(.type "code"), none, (.fields (a_ ([(s_ "is_graph" 262), (s_ "is_graph" 263), (s_ "/claim/cut.py" 264), (.int 16 0), (.int 1 0), (.int 0 0), (.int 0 0), (.int 3 0), (r_ 69), (.bool true), (.int 181 0), (r_ 70), n_, (r_ 71), (r_ 72), (r_ 73), (.int 269 0), (.int 16 0), (s_ "/claim/cut.py" 270)]))), a_ []⟩),
  (75, ⟨(.type "function"), none, (f_ (top 9) "is_graph" "is_graph" 3 n_ n_ n_ (s_ "trellis.graphs" 239) none (r_ 74) n_ 0), a_ []⟩),
  (76, ⟨(.type "tuple"), none, (.seq (a_ []) 0), a_ []⟩),
  (77, ⟨n_, none, (.fields (a_ [])), a_ []⟩),
  (78, ⟨(.type "tuple"), none, (.seq (a_ ([(s_ "u" 275), (s_ "v" 276)])) 0), a_ []⟩),
  (79, ⟨(.type "tuple"), none, (.seq (a_ []) 0), a_ []⟩),
  (80, ⟨n_, none, (f_ (top 10) "pair_of" "pair_of" 0 n_ n_ n_ n_ none n_ n_ 0), a_ []⟩),
  (81, ⟨(.type "code"), none, (.fields (a_ ([(s_ "pair_of" 272), (s_ "pair_of" 273), (s_ "/claim/cut.py" 274), (.int 26 0), (.int 2 0), (.int 0 0), (.int 0 0), (.int 3 0), (r_ 76), (.bool true), (.int 181 0), (r_ 77), n_, (r_ 78), (r_ 79), (r_ 80), (.int 277 0), (.int 26 0), (s_ "/claim/cut.py" 278)]))), a_ []⟩),
  (82, ⟨(.type "function"), none, (f_ (top 10) "pair_of" "pair_of" 3 n_ n_ n_ (s_ "trellis.graphs" 239) none (r_ 81) n_ 0), a_ []⟩),
  (83, ⟨(.type "tuple"), none, (.seq (a_ []) 0), a_ []⟩),
  (84, ⟨n_, none, (.fields (a_ [])), a_ []⟩),
  (85, ⟨(.type "tuple"), none, (.seq (a_ ([(s_ "n" 283), (s_ "edges" 284), (s_ "found" 285), (s_ "u" 286), (s_ "v" 287)])) 0), a_ []⟩),
  (86, ⟨(.type "tuple"), none, (.seq (a_ []) 0), a_ []⟩),
  (87, ⟨n_, none, (f_ (top 11) "made_graph" "made_graph" 0 n_ n_ n_ n_ none n_ n_ 0), a_ []⟩)]
def nw1_3 (w : World) : List (Nat × Obj) := [
  (88, ⟨(.type "code"), none, (.fields (a_ ([(s_ "made_graph" 280), (s_ "made_graph" 281), (s_ "/claim/cut.py" 282), (.int 28 0), (.int 2 0), (.int 0 0), (.int 0 0), (.int 3 0), (r_ 83), (.bool true), (.int 181 0), (r_ 84), n_, (r_ 85), (r_ 86), (r_ 87), (.int 288 0), (.int 28 0), (s_ "/claim/cut.py" 289)]))), a_ []⟩),
  (89, ⟨(.type "function"), none, (f_ (top 11) "made_graph" "made_graph" 3 n_ n_ n_ (s_ "trellis.graphs" 239) none (r_ 88) n_ 0), a_ []⟩),
  (90, ⟨(.type "tuple"), none, (.seq (a_ []) 0), a_ []⟩),
  (91, ⟨n_, none, (.fields (a_ [])), a_ []⟩),
  (92, ⟨(.type "tuple"), none, (.seq (a_ ([(s_ "graph" 294), (s_ "u" 295), (s_ "v" 296)])) 0), a_ []⟩),
  (93, ⟨(.type "tuple"), none, (.seq (a_ []) 0), a_ []⟩),
  (94, ⟨n_, none, (f_ (top 12) "are_neighbours" "are_neighbours" 0 n_ n_ n_ n_ none n_ n_ 0), a_ []⟩),
  (95, ⟨(.type "code"), none, (.fields (a_ ([(s_ "are_neighbours" 291), (s_ "are_neighbours" 292), (s_ "/claim/cut.py" 293), (.int 37 0), (.int 3 0), (.int 0 0), (.int 0 0), (.int 3 0), (r_ 90), (.bool true), (.int 181 0), (r_ 91), n_, (r_ 92), (r_ 93), (r_ 94), (.int 297 0), (.int 37 0), (s_ "/claim/cut.py" 298)]))), a_ []⟩),
  (96, ⟨(.type "function"), none, (f_ (top 12) "are_neighbours" "are_neighbours" 3 n_ n_ n_ (s_ "trellis.graphs" 239) none (r_ 95) n_ 0), a_ []⟩),
  (97, ⟨(.type "tuple"), none, (.seq (a_ []) 0), a_ []⟩),
  (98, ⟨n_, none, (.fields (a_ [])), a_ []⟩),
  (99, ⟨n_, none, (f_ (top 13) "neighbours" "neighbours" 0 n_ n_ n_ n_ none n_ n_ 0), a_ []⟩),
  (100, ⟨(.type "code"), none, (.fields (a_ ([(s_ "neighbours" 300), (s_ "neighbours" 301), (s_ "/claim/cut.py" 302), (.int 39 0), (.int 2 0), (.int 0 0), (.int 0 0), (.int 3 0), (r_ 97), (.bool true), (.int 181 0), (r_ 98), n_, n_, n_, (r_ 99), (.int 303 0), (.int 39 0), (s_ "/claim/cut.py" 304)]))), a_ []⟩),
  (101, ⟨(.type "function"), none, (f_ (top 13) "neighbours" "neighbours" 3 n_ n_ n_ (s_ "trellis.graphs" 239) none (r_ 100) n_ 0), a_ []⟩),
  (102, ⟨(.type "tuple"), none, (.seq (a_ []) 0), a_ []⟩),
  (103, ⟨n_, none, (.fields (a_ [])), a_ []⟩),
  (104, ⟨n_, none, (f_ (top 14) "inside" "inside" 0 n_ n_ n_ n_ none n_ n_ 0), a_ []⟩),
  (105, ⟨(.type "code"), none, (.fields (a_ ([(s_ "inside" 306), (s_ "inside" 307), (s_ "/claim/cut.py" 308), (.int 41 0), (.int 2 0), (.int 0 0), (.int 0 0), (.int 3 0), (r_ 102), (.bool true), (.int 181 0), (r_ 103), n_, n_, n_, (r_ 104), (.int 309 0), (.int 41 0), (s_ "/claim/cut.py" 310)]))), a_ []⟩),
  (106, ⟨(.type "function"), none, (f_ (top 14) "inside" "inside" 3 n_ n_ n_ (s_ "trellis.graphs" 239) none (r_ 105) n_ 0), a_ []⟩),
  (107, ⟨(.type "tuple"), none, (.seq (a_ []) 0), a_ []⟩),
  (108, ⟨n_, none, (.fields (a_ [])), a_ []⟩),
  (109, ⟨(.type "tuple"), none, (.seq (a_ ([(s_ "graph" 315), (s_ "v" 316), (s_ "members" 317), (s_ "found" 318), (s_ "waiting" 319), (s_ "u" 320), (s_ "w" 321)])) 0), a_ []⟩),
  (110, ⟨(.type "tuple"), none, (.seq (a_ []) 0), a_ []⟩),
  (111, ⟨n_, none, (f_ (top 15) "part_of" "part_of" 0 n_ n_ n_ n_ none n_ n_ 0), a_ []⟩),
  (112, ⟨(.type "code"), none, (.fields (a_ ([(s_ "part_of" 312), (s_ "part_of" 313), (s_ "/claim/cut.py" 314), (.int 43 0), (.int 3 0), (.int 0 0), (.int 0 0), (.int 3 0), (r_ 107), (.bool true), (.int 181 0), (r_ 108), n_, (r_ 109), (r_ 110), (r_ 111), (.int 322 0), (.int 43 0), (s_ "/claim/cut.py" 323)]))), a_ []⟩)]
def nw1_4 (w : World) : List (Nat × Obj) := [
  (113, ⟨(.type "function"), none, (f_ (top 15) "part_of" "part_of" 3 n_ n_ n_ (s_ "trellis.graphs" 239) none (r_ 112) n_ 0), a_ []⟩),
  (114, ⟨(.type "tuple"), none, (.seq (a_ []) 0), a_ []⟩),
  (115, ⟨n_, none, (.fields (a_ [])), a_ []⟩),
  (116, ⟨n_, none, (f_ (top 16) "parts_of" "parts_of" 0 n_ n_ n_ n_ none n_ n_ 0), a_ []⟩),
  (117, ⟨(.type "code"), none, (.fields (a_ ([(s_ "parts_of" 325), (s_ "parts_of" 326), (s_ "/claim/cut.py" 327), (.int 53 0), (.int 2 0), (.int 0 0), (.int 0 0), (.int 3 0), (r_ 114), (.bool true), (.int 181 0), (r_ 115), n_, n_, n_, (r_ 116), (.int 328 0), (.int 53 0), (s_ "/claim/cut.py" 329)]))), a_ []⟩),
  (118, ⟨(.type "function"), none, (f_ (top 16) "parts_of" "parts_of" 3 n_ n_ n_ (s_ "trellis.graphs" 239) none (r_ 117) n_ 0), a_ []⟩),
  (119, ⟨(.type "tuple"), none, (.seq (a_ []) 0), a_ []⟩),
  (120, ⟨n_, none, (.fields (a_ [])), a_ []⟩),
  (121, ⟨(.type "tuple"), none, (.seq (a_ ([(s_ "graph" 334)])) 0), a_ []⟩),
  (122, ⟨(.type "tuple"), none, (.seq (a_ []) 0), a_ []⟩),
  (123, ⟨n_, none, (f_ (top 17) "components" "components" 0 n_ n_ n_ n_ none n_ n_ 0), a_ []⟩),
  (124, ⟨(.type "code"), none, (.fields (a_ ([(s_ "components" 331), (s_ "components" 332), (s_ "/claim/cut.py" 333), (.int 59 0), (.int 1 0), (.int 0 0), (.int 0 0), (.int 3 0), (r_ 119), (.bool true), (.int 181 0), (r_ 120), n_, (r_ 121), (r_ 122), (r_ 123), (.int 335 0), (.int 59 0), (s_ "/claim/cut.py" 336)]))), a_ []⟩),
  (125, ⟨(.type "function"), none, (f_ (top 17) "components" "components" 3 n_ n_ n_ (s_ "trellis.graphs" 239) none (r_ 124) n_ 0), a_ []⟩),
  (126, ⟨(.type "tuple"), none, (.seq (a_ []) 0), a_ []⟩),
  (127, ⟨n_, none, (.fields (a_ [])), a_ []⟩),
  (128, ⟨(.type "tuple"), none, (.seq (a_ ([(s_ "graph" 341), (s_ "members" 342)])) 0), a_ []⟩),
  (129, ⟨(.type "tuple"), none, (.seq (a_ []) 0), a_ []⟩),
  (130, ⟨n_, none, (f_ (top 18) "is_connected" "is_connected" 0 n_ n_ n_ n_ none n_ n_ 0), a_ []⟩),
  (131, ⟨(.type "code"), none, (.fields (a_ ([(s_ "is_connected" 338), (s_ "is_connected" 339), (s_ "/claim/cut.py" 340), (.int 61 0), (.int 2 0), (.int 0 0), (.int 0 0), (.int 3 0), (r_ 126), (.bool true), (.int 181 0), (r_ 127), n_, (r_ 128), (r_ 129), (r_ 130), (.int 343 0), (.int 61 0), (s_ "/claim/cut.py" 344)]))), a_ []⟩),
  (132, ⟨(.type "function"), none, (f_ (top 18) "is_connected" "is_connected" 3 n_ n_ n_ (s_ "trellis.graphs" 239) none (r_ 131) n_ 0), a_ []⟩),
  (133, ⟨(.type "tuple"), none, (.seq (a_ []) 0), a_ []⟩),
  (134, ⟨n_, none, (.fields (a_ [])), a_ []⟩),
  (135, ⟨n_, none, (f_ (top 19) "complement" "complement" 0 n_ n_ n_ n_ none n_ n_ 0), a_ []⟩),
  (136, ⟨(.type "code"), none, (.fields (a_ ([(s_ "complement" 346), (s_ "complement" 347), (s_ "/claim/cut.py" 348), (.int 63 0), (.int 1 0), (.int 0 0), (.int 0 0), (.int 3 0), (r_ 133), (.bool true), (.int 181 0), (r_ 134), n_, n_, n_, (r_ 135), (.int 349 0), (.int 63 0), (s_ "/claim/cut.py" 350)]))), a_ []⟩),
  (137, ⟨(.type "function"), none, (f_ (top 19) "complement" "complement" 3 n_ n_ n_ (s_ "trellis.graphs" 239) none (r_ 136) n_ 0), a_ []⟩)]
def nw1_5 (w : World) : List (Nat × Obj) := [
  (138, ⟨(.type "tuple"), none, (.seq (a_ []) 0), a_ []⟩),
  (139, ⟨n_, none, (.fields (a_ [])), a_ []⟩),
  (140, ⟨n_, none, (f_ (top 20) "induced" "induced" 0 n_ n_ n_ n_ none n_ n_ 0), a_ []⟩),
  (141, ⟨(.type "code"), none, (.fields (a_ ([(s_ "induced" 352), (s_ "induced" 353), (s_ "/claim/cut.py" 354), (.int 66 0), (.int 2 0), (.int 0 0), (.int 0 0), (.int 3 0), (r_ 138), (.bool true), (.int 181 0), (r_ 139), n_, n_, n_, (r_ 140), (.int 355 0), (.int 66 0), (s_ "/claim/cut.py" 356)]))), a_ []⟩),
  (142, ⟨(.type "function"), none, (f_ (top 20) "induced" "induced" 3 n_ n_ n_ (s_ "trellis.graphs" 239) none (r_ 141) n_ 0), a_ []⟩),
  (143, ⟨(.type "tuple"), none, (.seq (a_ []) 0), a_ []⟩),
  (144, ⟨n_, none, (.fields (a_ [])), a_ []⟩),
  (145, ⟨n_, none, (f_ (top 21) "renamed" "renamed" 0 n_ n_ n_ n_ none n_ n_ 0), a_ []⟩),
  (146, ⟨(.type "code"), none, (.fields (a_ ([(s_ "renamed" 358), (s_ "renamed" 359), (s_ "/claim/cut.py" 360), (.int 70 0), (.int 2 0), (.int 0 0), (.int 0 0), (.int 3 0), (r_ 143), (.bool true), (.int 181 0), (r_ 144), n_, n_, n_, (r_ 145), (.int 361 0), (.int 70 0), (s_ "/claim/cut.py" 362)]))), a_ []⟩),
  (147, ⟨(.type "function"), none, (f_ (top 21) "renamed" "renamed" 3 n_ n_ n_ (s_ "trellis.graphs" 239) none (r_ 146) n_ 0), a_ []⟩),
  (148, ⟨(.type "tuple"), none, (.seq (a_ []) 0), a_ []⟩),
  (149, ⟨n_, none, (.fields (a_ [])), a_ []⟩),
  (150, ⟨n_, none, (f_ (top 23) "is_vertex_tuple" "is_vertex_tuple" 0 n_ n_ n_ n_ none n_ n_ 0), a_ []⟩),
  (151, ⟨(.type "code"), none, (.fields (a_ ([(s_ "is_vertex_tuple" 366), (s_ "is_vertex_tuple" 367), (s_ "/claim/cut.py" 368), (.int 73 0), (.int 2 0), (.int 0 0), (.int 0 0), (.int 3 0), (r_ 148), (.bool true), (.int 181 0), (r_ 149), n_, n_, n_, (r_ 150), (.int 369 0), (.int 73 0), (s_ "/claim/cut.py" 370)]))), a_ []⟩),
  (152, ⟨(.type "function"), none, (f_ (top 23) "is_vertex_tuple" "is_vertex_tuple" 3 n_ n_ n_ (s_ "trellis.forms" 364) none (r_ 151) n_ 0), a_ []⟩),
  (153, ⟨(.type "tuple"), none, (.seq (a_ []) 0), a_ []⟩),
  (154, ⟨n_, none, (.fields (a_ [])), a_ []⟩),
  (155, ⟨(.type "tuple"), none, (.seq (a_ ([(s_ "graph" 375), (s_ "value" 376)])) 0), a_ []⟩),
  (156, ⟨(.type "tuple"), none, (.seq (a_ []) 0), a_ []⟩),
  (157, ⟨n_, none, (f_ (top 24) "is_set" "is_set" 0 n_ n_ n_ n_ none n_ n_ 0), a_ []⟩),
  (158, ⟨(.type "code"), none, (.fields (a_ ([(s_ "is_set" 372), (s_ "is_set" 373), (s_ "/claim/cut.py" 374), (.int 77 0), (.int 2 0), (.int 0 0), (.int 0 0), (.int 3 0), (r_ 153), (.bool true), (.int 181 0), (r_ 154), n_, (r_ 155), (r_ 156), (r_ 157), (.int 377 0), (.int 77 0), (s_ "/claim/cut.py" 378)]))), a_ []⟩),
  (159, ⟨(.type "function"), none, (f_ (top 24) "is_set" "is_set" 3 n_ n_ n_ (s_ "trellis.forms" 364) none (r_ 158) n_ 0), a_ []⟩),
  (160, ⟨(.type "tuple"), none, (.seq (a_ []) 0), a_ []⟩),
  (161, ⟨n_, none, (.fields (a_ [])), a_ []⟩),
  (162, ⟨(.type "tuple"), none, (.seq (a_ ([(s_ "graph" 383), (s_ "value" 384)])) 0), a_ []⟩)]
def nw1_6 (w : World) : List (Nat × Obj) := [
  (163, ⟨(.type "tuple"), none, (.seq (a_ []) 0), a_ []⟩),
  (164, ⟨n_, none, (f_ (top 25) "is_order" "is_order" 0 n_ n_ n_ n_ none n_ n_ 0), a_ []⟩),
  (165, ⟨(.type "code"), none, (.fields (a_ ([(s_ "is_order" 380), (s_ "is_order" 381), (s_ "/claim/cut.py" 382), (.int 79 0), (.int 2 0), (.int 0 0), (.int 0 0), (.int 3 0), (r_ 160), (.bool true), (.int 181 0), (r_ 161), n_, (r_ 162), (r_ 163), (r_ 164), (.int 385 0), (.int 79 0), (s_ "/claim/cut.py" 386)]))), a_ []⟩),
  (166, ⟨(.type "function"), none, (f_ (top 25) "is_order" "is_order" 3 n_ n_ n_ (s_ "trellis.forms" 364) none (r_ 165) n_ 0), a_ []⟩),
  (167, ⟨(.type "tuple"), none, (.seq (a_ []) 0), a_ []⟩),
  (168, ⟨n_, none, (.fields (a_ [])), a_ []⟩),
  (169, ⟨(.type "tuple"), none, (.seq (a_ ([(s_ "graph" 391), (s_ "value" 392)])) 0), a_ []⟩),
  (170, ⟨(.type "tuple"), none, (.seq (a_ []) 0), a_ []⟩),
  (171, ⟨n_, none, (f_ (top 26) "is_edge" "is_edge" 0 n_ n_ n_ n_ none n_ n_ 0), a_ []⟩),
  (172, ⟨(.type "code"), none, (.fields (a_ ([(s_ "is_edge" 388), (s_ "is_edge" 389), (s_ "/claim/cut.py" 390), (.int 81 0), (.int 2 0), (.int 0 0), (.int 0 0), (.int 3 0), (r_ 167), (.bool true), (.int 181 0), (r_ 168), n_, (r_ 169), (r_ 170), (r_ 171), (.int 393 0), (.int 81 0), (s_ "/claim/cut.py" 394)]))), a_ []⟩),
  (173, ⟨(.type "function"), none, (f_ (top 26) "is_edge" "is_edge" 3 n_ n_ n_ (s_ "trellis.forms" 364) none (r_ 172) n_ 0), a_ []⟩),
  (174, ⟨(.type "tuple"), none, (.seq (a_ []) 0), a_ []⟩),
  (175, ⟨n_, none, (.fields (a_ [])), a_ []⟩),
  (176, ⟨(.type "tuple"), none, (.seq (a_ ([(s_ "graph" 399), (s_ "value" 400)])) 0), a_ []⟩),
  (177, ⟨(.type "tuple"), none, (.seq (a_ []) 0), a_ []⟩),
  (178, ⟨n_, none, (f_ (top 27) "is_arrow" "is_arrow" 0 n_ n_ n_ n_ none n_ n_ 0), a_ []⟩),
  (179, ⟨(.type "code"), none, (.fields (a_ ([(s_ "is_arrow" 396), (s_ "is_arrow" 397), (s_ "/claim/cut.py" 398), (.int 83 0), (.int 2 0), (.int 0 0), (.int 0 0), (.int 3 0), (r_ 174), (.bool true), (.int 181 0), (r_ 175), n_, (r_ 176), (r_ 177), (r_ 178), (.int 401 0), (.int 83 0), (s_ "/claim/cut.py" 402)]))), a_ []⟩),
  (180, ⟨(.type "function"), none, (f_ (top 27) "is_arrow" "is_arrow" 3 n_ n_ n_ (s_ "trellis.forms" 364) none (r_ 179) n_ 0), a_ []⟩),
  (181, ⟨(.type "tuple"), none, (.seq (a_ []) 0), a_ []⟩),
  (182, ⟨n_, none, (.fields (a_ [])), a_ []⟩),
  (183, ⟨(.type "tuple"), none, (.seq (a_ ([(s_ "value" 407), (s_ "size" 408)])) 0), a_ []⟩),
  (184, ⟨(.type "tuple"), none, (.seq (a_ []) 0), a_ []⟩),
  (185, ⟨n_, none, (f_ (top 28) "is_tuple_of" "is_tuple_of" 0 n_ n_ n_ n_ none n_ n_ 0), a_ []⟩),
  (186, ⟨(.type "code"), none, (.fields (a_ ([(s_ "is_tuple_of" 404), (s_ "is_tuple_of" 405), (s_ "/claim/cut.py" 406), (.int 87 0), (.int 2 0), (.int 0 0), (.int 0 0), (.int 3 0), (r_ 181), (.bool true), (.int 181 0), (r_ 182), n_, (r_ 183), (r_ 184), (r_ 185), (.int 409 0), (.int 87 0), (s_ "/claim/cut.py" 410)]))), a_ []⟩),
  (187, ⟨(.type "function"), none, (f_ (top 28) "is_tuple_of" "is_tuple_of" 3 n_ n_ n_ (s_ "trellis.forms" 364) none (r_ 186) n_ 0), a_ []⟩)]
def nw1_7 (w : World) : List (Nat × Obj) := [
  (188, ⟨(.type "tuple"), none, (.seq (a_ []) 0), a_ []⟩),
  (189, ⟨n_, none, (.fields (a_ [])), a_ []⟩),
  (190, ⟨n_, none, (f_ (top 29) "are_sets" "are_sets" 0 n_ n_ n_ n_ none n_ n_ 0), a_ []⟩),
  (191, ⟨(.type "code"), none, (.fields (a_ ([(s_ "are_sets" 412), (s_ "are_sets" 413), (s_ "/claim/cut.py" 414), (.int 89 0), (.int 2 0), (.int 0 0), (.int 0 0), (.int 3 0), (r_ 188), (.bool true), (.int 181 0), (r_ 189), n_, n_, n_, (r_ 190), (.int 415 0), (.int 89 0), (s_ "/claim/cut.py" 416)]))), a_ []⟩),
  (192, ⟨(.type "function"), none, (f_ (top 29) "are_sets" "are_sets" 3 n_ n_ n_ (s_ "trellis.forms" 364) none (r_ 191) n_ 0), a_ []⟩),
  (193, ⟨(.type "tuple"), none, (.seq (a_ []) 0), a_ []⟩),
  (194, ⟨n_, none, (.fields (a_ [])), a_ []⟩),
  (195, ⟨n_, none, (f_ (top 30) "are_edges" "are_edges" 0 n_ n_ n_ n_ none n_ n_ 0), a_ []⟩),
  (196, ⟨(.type "code"), none, (.fields (a_ ([(s_ "are_edges" 418), (s_ "are_edges" 419), (s_ "/claim/cut.py" 420), (.int 91 0), (.int 2 0), (.int 0 0), (.int 0 0), (.int 3 0), (r_ 193), (.bool true), (.int 181 0), (r_ 194), n_, n_, n_, (r_ 195), (.int 421 0), (.int 91 0), (s_ "/claim/cut.py" 422)]))), a_ []⟩),
  (197, ⟨(.type "function"), none, (f_ (top 30) "are_edges" "are_edges" 3 n_ n_ n_ (s_ "trellis.forms" 364) none (r_ 196) n_ 0), a_ []⟩),
  (198, ⟨(.type "tuple"), none, (.seq (a_ []) 0), a_ []⟩),
  (199, ⟨n_, none, (.fields (a_ [])), a_ []⟩),
  (200, ⟨n_, none, (f_ (top 31) "is_direction" "is_direction" 0 n_ n_ n_ n_ none n_ n_ 0), a_ []⟩),
  (201, ⟨(.type "code"), none, (.fields (a_ ([(s_ "is_direction" 424), (s_ "is_direction" 425), (s_ "/claim/cut.py" 426), (.int 93 0), (.int 2 0), (.int 0 0), (.int 0 0), (.int 3 0), (r_ 198), (.bool true), (.int 181 0), (r_ 199), n_, n_, n_, (r_ 200), (.int 427 0), (.int 93 0), (s_ "/claim/cut.py" 428)]))), a_ []⟩),
  (202, ⟨(.type "function"), none, (f_ (top 31) "is_direction" "is_direction" 3 n_ n_ n_ (s_ "trellis.forms" 364) none (r_ 201) n_ 0), a_ []⟩),
  (203, ⟨(.type "tuple"), none, (.seq (a_ []) 0), a_ []⟩),
  (204, ⟨n_, none, (.fields (a_ [])), a_ []⟩),
  (205, ⟨n_, none, (f_ (top 32) "is_clique" "is_clique" 0 n_ n_ n_ n_ none n_ n_ 0), a_ []⟩),
  (206, ⟨(.type "code"), none, (.fields (a_ ([(s_ "is_clique" 430), (s_ "is_clique" 431), (s_ "/claim/cut.py" 432), (.int 97 0), (.int 2 0), (.int 0 0), (.int 0 0), (.int 3 0), (r_ 203), (.bool true), (.int 181 0), (r_ 204), n_, n_, n_, (r_ 205), (.int 433 0), (.int 97 0), (s_ "/claim/cut.py" 434)]))), a_ []⟩),
  (207, ⟨(.type "function"), none, (f_ (top 32) "is_clique" "is_clique" 3 n_ n_ n_ (s_ "trellis.forms" 364) none (r_ 206) n_ 0), a_ []⟩),
  (208, ⟨(.type "tuple"), none, (.seq (a_ []) 0), a_ []⟩),
  (209, ⟨n_, none, (.fields (a_ [])), a_ []⟩),
  (210, ⟨(.type "tuple"), none, (.seq (a_ ([(s_ "members" 439), (s_ "n" 440)])) 0), a_ []⟩),
  (211, ⟨(.type "tuple"), none, (.seq (a_ []) 0), a_ []⟩),
  (212, ⟨n_, none, (f_ (top 33) "is_split" "is_split" 0 n_ n_ n_ n_ none n_ n_ 0), a_ []⟩)]
def nw1_8 (w : World) : List (Nat × Obj) := [
  (213, ⟨(.type "code"), none, (.fields (a_ ([(s_ "is_split" 436), (s_ "is_split" 437), (s_ "/claim/cut.py" 438), (.int 99 0), (.int 2 0), (.int 0 0), (.int 0 0), (.int 3 0), (r_ 208), (.bool true), (.int 181 0), (r_ 209), n_, (r_ 210), (r_ 211), (r_ 212), (.int 441 0), (.int 99 0), (s_ "/claim/cut.py" 442)]))), a_ []⟩),
  (214, ⟨(.type "function"), none, (f_ (top 33) "is_split" "is_split" 3 n_ n_ n_ (s_ "trellis.forms" 364) none (r_ 213) n_ 0), a_ []⟩),
  (215, ⟨(.type "tuple"), none, (.seq (a_ []) 0), a_ []⟩),
  (216, ⟨n_, none, (.fields (a_ [])), a_ []⟩),
  (217, ⟨(.type "tuple"), none, (.seq (a_ ([(s_ "value" 447), (s_ "most" 448)])) 0), a_ []⟩),
  (218, ⟨(.type "tuple"), none, (.seq (a_ []) 0), a_ []⟩),
  (219, ⟨n_, none, (f_ (top 34) "is_small_integer" "is_small_integer" 0 n_ n_ n_ n_ none n_ n_ 0), a_ []⟩),
  (220, ⟨(.type "code"), none, (.fields (a_ ([(s_ "is_small_integer" 444), (s_ "is_small_integer" 445), (s_ "/claim/cut.py" 446), (.int 101 0), (.int 2 0), (.int 0 0), (.int 0 0), (.int 3 0), (r_ 215), (.bool true), (.int 181 0), (r_ 216), n_, (r_ 217), (r_ 218), (r_ 219), (.int 449 0), (.int 101 0), (s_ "/claim/cut.py" 450)]))), a_ []⟩),
  (221, ⟨(.type "function"), none, (f_ (top 34) "is_small_integer" "is_small_integer" 3 n_ n_ n_ (s_ "trellis.forms" 364) none (r_ 220) n_ 0), a_ []⟩),
  (222, ⟨(.type "tuple"), none, (.seq (a_ []) 0), a_ []⟩),
  (223, ⟨n_, none, (.fields (a_ [])), a_ []⟩),
  (224, ⟨n_, none, (f_ (top 36) "is_path" "is_path" 0 n_ n_ n_ n_ none n_ n_ 0), a_ []⟩),
  (225, ⟨(.type "code"), none, (.fields (a_ ([(s_ "is_path" 454), (s_ "is_path" 455), (s_ "/claim/cut.py" 456), (.int 104 0), (.int 2 0), (.int 0 0), (.int 0 0), (.int 3 0), (r_ 222), (.bool true), (.int 181 0), (r_ 223), n_, n_, n_, (r_ 224), (.int 457 0), (.int 104 0), (s_ "/claim/cut.py" 458)]))), a_ []⟩),
  (226, ⟨(.type "function"), none, (f_ (top 36) "is_path" "is_path" 3 n_ n_ n_ (s_ "trellis.walks" 452) none (r_ 225) n_ 0), a_ []⟩),
  (227, ⟨(.type "tuple"), none, (.seq (a_ []) 0), a_ []⟩),
  (228, ⟨n_, none, (.fields (a_ [])), a_ []⟩),
  (229, ⟨(.type "tuple"), none, (.seq (a_ ([(s_ "graph" 463), (s_ "value" 464), (s_ "u" 465), (s_ "v" 466)])) 0), a_ []⟩),
  (230, ⟨(.type "tuple"), none, (.seq (a_ []) 0), a_ []⟩),
  (231, ⟨n_, none, (f_ (top 37) "is_path_between" "is_path_between" 0 n_ n_ n_ n_ none n_ n_ 0), a_ []⟩),
  (232, ⟨(.type "code"), none, (.fields (a_ ([(s_ "is_path_between" 460), (s_ "is_path_between" 461), (s_ "/claim/cut.py" 462), (.int 108 0), (.int 4 0), (.int 0 0), (.int 0 0), (.int 3 0), (r_ 227), (.bool true), (.int 181 0), (r_ 228), n_, (r_ 229), (r_ 230), (r_ 231), (.int 467 0), (.int 108 0), (s_ "/claim/cut.py" 468)]))), a_ []⟩),
  (233, ⟨(.type "function"), none, (f_ (top 37) "is_path_between" "is_path_between" 3 n_ n_ n_ (s_ "trellis.walks" 452) none (r_ 232) n_ 0), a_ []⟩),
  (234, ⟨(.type "tuple"), none, (.seq (a_ []) 0), a_ []⟩),
  (235, ⟨n_, none, (.fields (a_ [])), a_ []⟩),
  (236, ⟨(.type "tuple"), none, (.seq (a_ ([(s_ "graph" 473), (s_ "value" 474)])) 0), a_ []⟩),
  (237, ⟨(.type "tuple"), none, (.seq (a_ []) 0), a_ []⟩)]
def nw1_9 (w : World) : List (Nat × Obj) := [
  (238, ⟨n_, none, (f_ (top 38) "is_cycle" "is_cycle" 0 n_ n_ n_ n_ none n_ n_ 0), a_ []⟩),
  (239, ⟨(.type "code"), none, (.fields (a_ ([(s_ "is_cycle" 470), (s_ "is_cycle" 471), (s_ "/claim/cut.py" 472), (.int 110 0), (.int 2 0), (.int 0 0), (.int 0 0), (.int 3 0), (r_ 234), (.bool true), (.int 181 0), (r_ 235), n_, (r_ 236), (r_ 237), (r_ 238), (.int 475 0), (.int 110 0), (s_ "/claim/cut.py" 476)]))), a_ []⟩),
  (240, ⟨(.type "function"), none, (f_ (top 38) "is_cycle" "is_cycle" 3 n_ n_ n_ (s_ "trellis.walks" 452) none (r_ 239) n_ 0), a_ []⟩),
  (241, ⟨(.type "tuple"), none, (.seq (a_ []) 0), a_ []⟩),
  (242, ⟨n_, none, (.fields (a_ [])), a_ []⟩),
  (243, ⟨(.type "tuple"), none, (.seq (a_ ([(s_ "graph" 481), (s_ "u" 482), (s_ "v" 483), (s_ "avoided" 484), (s_ "before" 485), (s_ "waiting" 486), (s_ "x" 487), (s_ "w" 488), (s_ "path" 489)])) 0), a_ []⟩),
  (244, ⟨(.type "tuple"), none, (.seq (a_ []) 0), a_ []⟩),
  (245, ⟨n_, none, (f_ (top 39) "shortest_path" "shortest_path" 0 n_ n_ n_ n_ none n_ n_ 0), a_ []⟩),
  (246, ⟨(.type "code"), none, (.fields (a_ ([(s_ "shortest_path" 478), (s_ "shortest_path" 479), (s_ "/claim/cut.py" 480), (.int 112 0), (.int 4 0), (.int 0 0), (.int 0 0), (.int 3 0), (r_ 241), (.bool true), (.int 181 0), (r_ 242), n_, (r_ 243), (r_ 244), (r_ 245), (.int 490 0), (.int 112 0), (s_ "/claim/cut.py" 491)]))), a_ []⟩),
  (247, ⟨(.type "function"), none, (f_ (top 39) "shortest_path" "shortest_path" 3 n_ n_ n_ (s_ "trellis.walks" 452) none (r_ 246) n_ 0), a_ []⟩),
  (248, ⟨(.type "tuple"), none, (.seq (a_ []) 0), a_ []⟩),
  (249, ⟨n_, none, (.fields (a_ [])), a_ []⟩),
  (250, ⟨n_, none, (f_ (top 40) "without_edge" "without_edge" 0 n_ n_ n_ n_ none n_ n_ 0), a_ []⟩),
  (251, ⟨(.type "code"), none, (.fields (a_ ([(s_ "without_edge" 493), (s_ "without_edge" 494), (s_ "/claim/cut.py" 495), (.int 128 0), (.int 2 0), (.int 0 0), (.int 0 0), (.int 3 0), (r_ 248), (.bool true), (.int 181 0), (r_ 249), n_, n_, n_, (r_ 250), (.int 496 0), (.int 128 0), (s_ "/claim/cut.py" 497)]))), a_ []⟩),
  (252, ⟨(.type "function"), none, (f_ (top 40) "without_edge" "without_edge" 3 n_ n_ n_ (s_ "trellis.walks" 452) none (r_ 251) n_ 0), a_ []⟩),
  (253, ⟨(.type "tuple"), none, (.seq (a_ []) 0), a_ []⟩),
  (254, ⟨n_, none, (.fields (a_ [])), a_ []⟩),
  (255, ⟨(.type "tuple"), none, (.seq (a_ ([(s_ "graph" 502), (s_ "best" 503), (s_ "edge" 504), (s_ "path" 505)])) 0), a_ []⟩),
  (256, ⟨(.type "tuple"), none, (.seq (a_ []) 0), a_ []⟩),
  (257, ⟨n_, none, (f_ (top 41) "shortest_cycle" "shortest_cycle" 0 n_ n_ n_ n_ none n_ n_ 0), a_ []⟩),
  (258, ⟨(.type "code"), none, (.fields (a_ ([(s_ "shortest_cycle" 499), (s_ "shortest_cycle" 500), (s_ "/claim/cut.py" 501), (.int 130 0), (.int 1 0), (.int 0 0), (.int 0 0), (.int 3 0), (r_ 253), (.bool true), (.int 181 0), (r_ 254), n_, (r_ 255), (r_ 256), (r_ 257), (.int 506 0), (.int 130 0), (s_ "/claim/cut.py" 507)]))), a_ []⟩),
  (259, ⟨(.type "function"), none, (f_ (top 41) "shortest_cycle" "shortest_cycle" 3 n_ n_ n_ (s_ "trellis.walks" 452) none (r_ 258) n_ 0), a_ []⟩),
  (260, ⟨(.type "tuple"), none, (.seq (a_ []) 0), a_ []⟩),
  (261, ⟨n_, none, (.fields (a_ [])), a_ []⟩),
  (262, ⟨(.type "tuple"), none, (.seq (a_ ([(s_ "graph" 514), (s_ "edges" 515)])) 0), a_ []⟩)]
def nw1_10 (w : World) : List (Nat × Obj) := [
  (263, ⟨(.type "tuple"), none, (.seq (a_ []) 0), a_ []⟩),
  (264, ⟨n_, none, (f_ (top 43) "connects_all" "connects_all" 0 n_ n_ n_ n_ none n_ n_ 0), a_ []⟩),
  (265, ⟨(.type "code"), none, (.fields (a_ ([(s_ "connects_all" 511), (s_ "connects_all" 512), (s_ "/claim/cut.py" 513), (.int 138 0), (.int 2 0), (.int 0 0), (.int 0 0), (.int 3 0), (r_ 260), (.bool true), (.int 181 0), (r_ 261), n_, (r_ 262), (r_ 263), (r_ 264), (.int 516 0), (.int 138 0), (s_ "/claim/cut.py" 517)]))), a_ []⟩),
  (266, ⟨(.type "function"), none, (f_ (top 43) "connects_all" "connects_all" 3 n_ n_ n_ (s_ "trellis.check_walks" 509) none (r_ 265) n_ 0), a_ []⟩),
  (267, ⟨(.type "tuple"), none, (.seq (a_ []) 0), a_ []⟩),
  (268, ⟨n_, none, (.fields (a_ [])), a_ []⟩),
  (269, ⟨(.type "tuple"), none, (.seq (a_ ([(s_ "graph" 522), (s_ "value" 523)])) 0), a_ []⟩),
  (270, ⟨(.type "tuple"), none, (.seq (a_ []) 0), a_ []⟩),
  (271, ⟨n_, none, (f_ (top 44) "is_spanning_tree" "is_spanning_tree" 0 n_ n_ n_ n_ none n_ n_ 0), a_ []⟩),
  (272, ⟨(.type "code"), none, (.fields (a_ ([(s_ "is_spanning_tree" 519), (s_ "is_spanning_tree" 520), (s_ "/claim/cut.py" 521), (.int 140 0), (.int 2 0), (.int 0 0), (.int 0 0), (.int 3 0), (r_ 267), (.bool true), (.int 181 0), (r_ 268), n_, (r_ 269), (r_ 270), (r_ 271), (.int 524 0), (.int 140 0), (s_ "/claim/cut.py" 525)]))), a_ []⟩),
  (273, ⟨(.type "function"), none, (f_ (top 44) "is_spanning_tree" "is_spanning_tree" 3 n_ n_ n_ (s_ "trellis.check_walks" 509) none (r_ 272) n_ 0), a_ []⟩),
  (274, ⟨(.type "tuple"), none, (.seq (a_ []) 0), a_ []⟩),
  (275, ⟨n_, none, (.fields (a_ [])), a_ []⟩),
  (276, ⟨(.type "tuple"), none, (.seq (a_ ([(s_ "edge" 530), (s_ "members" 531)])) 0), a_ []⟩),
  (277, ⟨(.type "tuple"), none, (.seq (a_ []) 0), a_ []⟩),
  (278, ⟨n_, none, (f_ (top 45) "crosses" "crosses" 0 n_ n_ n_ n_ none n_ n_ 0), a_ []⟩),
  (279, ⟨(.type "code"), none, (.fields (a_ ([(s_ "crosses" 527), (s_ "crosses" 528), (s_ "/claim/cut.py" 529), (.int 142 0), (.int 2 0), (.int 0 0), (.int 0 0), (.int 3 0), (r_ 274), (.bool true), (.int 181 0), (r_ 275), n_, (r_ 276), (r_ 277), (r_ 278), (.int 532 0), (.int 142 0), (s_ "/claim/cut.py" 533)]))), a_ []⟩),
  (280, ⟨(.type "function"), none, (f_ (top 45) "crosses" "crosses" 3 n_ n_ n_ (s_ "trellis.check_walks" 509) none (r_ 279) n_ 0), a_ []⟩),
  (281, ⟨(.type "tuple"), none, (.seq (a_ []) 0), a_ []⟩),
  (282, ⟨n_, none, (.fields (a_ [])), a_ []⟩),
  (283, ⟨n_, none, (f_ (top 46) "check_connected" "check_connected" 0 n_ n_ n_ n_ none n_ n_ 0), a_ []⟩),
  (284, ⟨(.type "code"), none, (.fields (a_ ([(s_ "check_connected" 535), (s_ "check_connected" 536), (s_ "/claim/cut.py" 537), (.int 144 0), (.int 3 0), (.int 0 0), (.int 0 0), (.int 3 0), (r_ 281), (.bool true), (.int 181 0), (r_ 282), n_, n_, n_, (r_ 283), (.int 538 0), (.int 144 0), (s_ "/claim/cut.py" 539)]))), a_ []⟩),
  (285, ⟨(.type "function"), none, (f_ (top 46) "check_connected" "check_connected" 3 n_ n_ n_ (s_ "trellis.check_walks" 509) none (r_ 284) n_ 0), a_ []⟩),
  (286, ⟨(.type "tuple"), none, (.seq (a_ []) 0), a_ []⟩),
  (287, ⟨n_, none, (.fields (a_ [])), a_ []⟩)]
def nw1_11 (w : World) : List (Nat × Obj) := [
  (288, ⟨n_, none, (f_ (top 47) "check_bipartite" "check_bipartite" 0 n_ n_ n_ n_ none n_ n_ 0), a_ []⟩),
  (289, ⟨(.type "code"), none, (.fields (a_ ([(s_ "check_bipartite" 541), (s_ "check_bipartite" 542), (s_ "/claim/cut.py" 543), (.int 150 0), (.int 3 0), (.int 0 0), (.int 0 0), (.int 3 0), (r_ 286), (.bool true), (.int 181 0), (r_ 287), n_, n_, n_, (r_ 288), (.int 544 0), (.int 150 0), (s_ "/claim/cut.py" 545)]))), a_ []⟩),
  (290, ⟨(.type "function"), none, (f_ (top 47) "check_bipartite" "check_bipartite" 3 n_ n_ n_ (s_ "trellis.check_walks" 509) none (r_ 289) n_ 0), a_ []⟩),
  (291, ⟨(.type "tuple"), none, (.seq (a_ []) 0), a_ []⟩),
  (292, ⟨n_, none, (.fields (a_ [])), a_ []⟩),
  (293, ⟨n_, none, (f_ (top 48) "behind" "behind" 0 n_ n_ n_ n_ none n_ n_ 0), a_ []⟩),
  (294, ⟨(.type "code"), none, (.fields (a_ ([(s_ "behind" 547), (s_ "behind" 548), (s_ "/claim/cut.py" 549), (.int 154 0), (.int 3 0), (.int 0 0), (.int 0 0), (.int 3 0), (r_ 291), (.bool true), (.int 181 0), (r_ 292), n_, n_, n_, (r_ 293), (.int 550 0), (.int 154 0), (s_ "/claim/cut.py" 551)]))), a_ []⟩),
  (295, ⟨(.type "function"), none, (f_ (top 48) "behind" "behind" 3 n_ n_ n_ (s_ "trellis.check_walks" 509) none (r_ 294) n_ 0), a_ []⟩),
  (296, ⟨(.type "tuple"), none, (.seq (a_ []) 0), a_ []⟩),
  (297, ⟨n_, none, (.fields (a_ [])), a_ []⟩),
  (298, ⟨n_, none, (f_ (top 49) "check_forest" "check_forest" 0 n_ n_ n_ n_ none n_ n_ 0), a_ []⟩),
  (299, ⟨(.type "code"), none, (.fields (a_ ([(s_ "check_forest" 553), (s_ "check_forest" 554), (s_ "/claim/cut.py" 555), (.int 157 0), (.int 3 0), (.int 0 0), (.int 0 0), (.int 3 0), (r_ 296), (.bool true), (.int 181 0), (r_ 297), n_, n_, n_, (r_ 298), (.int 556 0), (.int 157 0), (s_ "/claim/cut.py" 557)]))), a_ []⟩),
  (300, ⟨(.type "function"), none, (f_ (top 49) "check_forest" "check_forest" 3 n_ n_ n_ (s_ "trellis.check_walks" 509) none (r_ 299) n_ 0), a_ []⟩),
  (301, ⟨(.type "tuple"), none, (.seq (a_ []) 0), a_ []⟩),
  (302, ⟨n_, none, (.fields (a_ [])), a_ []⟩),
  (303, ⟨n_, none, (f_ (top 50) "are_ears" "are_ears" 0 n_ n_ n_ n_ none n_ n_ 0), a_ []⟩),
  (304, ⟨(.type "code"), none, (.fields (a_ ([(s_ "are_ears" 559), (s_ "are_ears" 560), (s_ "/claim/cut.py" 561), (.int 161 0), (.int 2 0), (.int 0 0), (.int 0 0), (.int 3 0), (r_ 301), (.bool true), (.int 181 0), (r_ 302), n_, n_, n_, (r_ 303), (.int 562 0), (.int 161 0), (s_ "/claim/cut.py" 563)]))), a_ []⟩),
  (305, ⟨(.type "function"), none, (f_ (top 50) "are_ears" "are_ears" 3 n_ n_ n_ (s_ "trellis.check_walks" 509) none (r_ 304) n_ 0), a_ []⟩),
  (306, ⟨(.type "tuple"), none, (.seq (a_ []) 0), a_ []⟩),
  (307, ⟨n_, none, (.fields (a_ [])), a_ []⟩),
  (308, ⟨n_, none, (f_ (top 51) "check_block" "check_block" 0 n_ n_ n_ n_ none n_ n_ 0), a_ []⟩),
  (309, ⟨(.type "code"), none, (.fields (a_ ([(s_ "check_block" 565), (s_ "check_block" 566), (s_ "/claim/cut.py" 567), (.int 172 0), (.int 3 0), (.int 0 0), (.int 0 0), (.int 3 0), (r_ 306), (.bool true), (.int 181 0), (r_ 307), n_, n_, n_, (r_ 308), (.int 568 0), (.int 172 0), (s_ "/claim/cut.py" 569)]))), a_ []⟩),
  (310, ⟨(.type "function"), none, (f_ (top 51) "check_block" "check_block" 3 n_ n_ n_ (s_ "trellis.check_walks" 509) none (r_ 309) n_ 0), a_ []⟩),
  (311, ⟨(.type "tuple"), none, (.seq (a_ []) 0), a_ []⟩),
  (312, ⟨n_, none, (.fields (a_ [])), a_ []⟩)]
def nw1_12 (w : World) : List (Nat × Obj) := [
  (313, ⟨n_, none, (f_ (top 52) "are_apart" "are_apart" 0 n_ n_ n_ n_ none n_ n_ 0), a_ []⟩),
  (314, ⟨(.type "code"), none, (.fields (a_ ([(s_ "are_apart" 571), (s_ "are_apart" 572), (s_ "/claim/cut.py" 573), (.int 185 0), (.int 1 0), (.int 0 0), (.int 0 0), (.int 3 0), (r_ 311), (.bool true), (.int 181 0), (r_ 312), n_, n_, n_, (r_ 313), (.int 574 0), (.int 185 0), (s_ "/claim/cut.py" 575)]))), a_ []⟩),
  (315, ⟨(.type "function"), none, (f_ (top 52) "are_apart" "are_apart" 3 n_ n_ n_ (s_ "trellis.check_walks" 509) none (r_ 314) n_ 0), a_ []⟩),
  (316, ⟨(.type "tuple"), none, (.seq (a_ []) 0), a_ []⟩),
  (317, ⟨n_, none, (.fields (a_ [])), a_ []⟩),
  (318, ⟨n_, none, (f_ (top 53) "check_linked" "check_linked" 0 n_ n_ n_ n_ none n_ n_ 0), a_ []⟩),
  (319, ⟨(.type "code"), none, (.fields (a_ ([(s_ "check_linked" 577), (s_ "check_linked" 578), (s_ "/claim/cut.py" 579), (.int 188 0), (.int 4 0), (.int 0 0), (.int 0 0), (.int 3 0), (r_ 316), (.bool true), (.int 181 0), (r_ 317), n_, n_, n_, (r_ 318), (.int 580 0), (.int 188 0), (s_ "/claim/cut.py" 581)]))), a_ []⟩),
  (320, ⟨(.type "function"), none, (f_ (top 53) "check_linked" "check_linked" 3 n_ n_ n_ (s_ "trellis.check_walks" 509) none (r_ 319) n_ 0), a_ []⟩),
  (321, ⟨(.type "tuple"), none, (.seq (a_ []) 0), a_ []⟩),
  (322, ⟨n_, none, (.fields (a_ [])), a_ []⟩),
  (323, ⟨n_, none, (f_ (top 54) "components_without" "components_without" 0 n_ n_ n_ n_ none n_ n_ 0), a_ []⟩),
  (324, ⟨(.type "code"), none, (.fields (a_ ([(s_ "components_without" 583), (s_ "components_without" 584), (s_ "/claim/cut.py" 585), (.int 198 0), (.int 2 0), (.int 0 0), (.int 0 0), (.int 3 0), (r_ 321), (.bool true), (.int 181 0), (r_ 322), n_, n_, n_, (r_ 323), (.int 586 0), (.int 198 0), (s_ "/claim/cut.py" 587)]))), a_ []⟩),
  (325, ⟨(.type "function"), none, (f_ (top 54) "components_without" "components_without" 3 n_ n_ n_ (s_ "trellis.check_walks" 509) none (r_ 324) n_ 0), a_ []⟩),
  (326, ⟨(.type "tuple"), none, (.seq (a_ []) 0), a_ []⟩),
  (327, ⟨n_, none, (.fields (a_ [])), a_ []⟩),
  (328, ⟨n_, none, (f_ (top 56) "merged" "merged" 0 n_ n_ n_ n_ none n_ n_ 0), a_ []⟩),
  (329, ⟨(.type "code"), none, (.fields (a_ ([(s_ "merged" 591), (s_ "merged" 592), (s_ "/claim/cut.py" 593), (.int 201 0), (.int 3 0), (.int 0 0), (.int 0 0), (.int 3 0), (r_ 326), (.bool true), (.int 181 0), (r_ 327), n_, n_, n_, (r_ 328), (.int 594 0), (.int 201 0), (s_ "/claim/cut.py" 595)]))), a_ []⟩),
  (330, ⟨(.type "function"), none, (f_ (top 56) "merged" "merged" 3 n_ n_ n_ (s_ "trellis.check_searches" 589) none (r_ 329) n_ 0), a_ []⟩),
  (331, ⟨(.type "tuple"), none, (.seq (a_ []) 0), a_ []⟩),
  (332, ⟨n_, none, (.fields (a_ [])), a_ []⟩),
  (333, ⟨n_, none, (f_ (top 57) "is_colour_search" "is_colour_search" 0 n_ n_ n_ n_ none n_ n_ 0), a_ []⟩),
  (334, ⟨(.type "code"), none, (.fields (a_ ([(s_ "is_colour_search" 597), (s_ "is_colour_search" 598), (s_ "/claim/cut.py" 599), (.int 204 0), (.int 4 0), (.int 0 0), (.int 0 0), (.int 3 0), (r_ 331), (.bool true), (.int 181 0), (r_ 332), n_, n_, n_, (r_ 333), (.int 600 0), (.int 204 0), (s_ "/claim/cut.py" 601)]))), a_ []⟩),
  (335, ⟨(.type "function"), none, (f_ (top 57) "is_colour_search" "is_colour_search" 3 n_ n_ n_ (s_ "trellis.check_searches" 589) none (r_ 334) n_ 0), a_ []⟩),
  (336, ⟨(.type "tuple"), none, (.seq (a_ []) 0), a_ []⟩),
  (337, ⟨n_, none, (.fields (a_ [])), a_ []⟩)]
def nw1_13 (w : World) : List (Nat × Obj) := [
  (338, ⟨n_, none, (f_ (top 58) "check_colours" "check_colours" 0 n_ n_ n_ n_ none n_ n_ 0), a_ []⟩),
  (339, ⟨(.type "code"), none, (.fields (a_ ([(s_ "check_colours" 603), (s_ "check_colours" 604), (s_ "/claim/cut.py" 605), (.int 218 0), (.int 4 0), (.int 0 0), (.int 0 0), (.int 3 0), (r_ 336), (.bool true), (.int 181 0), (r_ 337), n_, n_, n_, (r_ 338), (.int 606 0), (.int 218 0), (s_ "/claim/cut.py" 607)]))), a_ []⟩),
  (340, ⟨(.type "function"), none, (f_ (top 58) "check_colours" "check_colours" 3 n_ n_ n_ (s_ "trellis.check_searches" 589) none (r_ 339) n_ 0), a_ []⟩),
  (341, ⟨(.type "tuple"), none, (.seq (a_ []) 0), a_ []⟩),
  (342, ⟨n_, none, (.fields (a_ [])), a_ []⟩),
  (343, ⟨n_, none, (f_ (top 59) "is_set_search" "is_set_search" 0 n_ n_ n_ n_ none n_ n_ 0), a_ []⟩),
  (344, ⟨(.type "code"), none, (.fields (a_ ([(s_ "is_set_search" 609), (s_ "is_set_search" 610), (s_ "/claim/cut.py" 611), (.int 224 0), (.int 4 0), (.int 0 0), (.int 0 0), (.int 3 0), (r_ 341), (.bool true), (.int 181 0), (r_ 342), n_, n_, n_, (r_ 343), (.int 612 0), (.int 224 0), (s_ "/claim/cut.py" 613)]))), a_ []⟩),
  (345, ⟨(.type "function"), none, (f_ (top 59) "is_set_search" "is_set_search" 3 n_ n_ n_ (s_ "trellis.check_searches" 589) none (r_ 344) n_ 0), a_ []⟩),
  (346, ⟨(.type "tuple"), none, (.seq (a_ []) 0), a_ []⟩),
  (347, ⟨n_, none, (.fields (a_ [])), a_ []⟩),
  (348, ⟨n_, none, (f_ (top 60) "check_independent" "check_independent" 0 n_ n_ n_ n_ none n_ n_ 0), a_ []⟩),
  (349, ⟨(.type "code"), none, (.fields (a_ ([(s_ "check_independent" 615), (s_ "check_independent" 616), (s_ "/claim/cut.py" 617), (.int 236 0), (.int 4 0), (.int 0 0), (.int 0 0), (.int 3 0), (r_ 346), (.bool true), (.int 181 0), (r_ 347), n_, n_, n_, (r_ 348), (.int 618 0), (.int 236 0), (s_ "/claim/cut.py" 619)]))), a_ []⟩),
  (350, ⟨(.type "function"), none, (f_ (top 60) "check_independent" "check_independent" 3 n_ n_ n_ (s_ "trellis.check_searches" 589) none (r_ 349) n_ 0), a_ []⟩),
  (351, ⟨(.type "tuple"), none, (.seq (a_ []) 0), a_ []⟩),
  (352, ⟨n_, none, (.fields (a_ [])), a_ []⟩),
  (353, ⟨n_, none, (f_ (top 61) "matching_bound" "matching_bound" 0 n_ n_ n_ n_ none n_ n_ 0), a_ []⟩),
  (354, ⟨(.type "code"), none, (.fields (a_ ([(s_ "matching_bound" 621), (s_ "matching_bound" 622), (s_ "/claim/cut.py" 623), (.int 242 0), (.int 2 0), (.int 0 0), (.int 0 0), (.int 3 0), (r_ 351), (.bool true), (.int 181 0), (r_ 352), n_, n_, n_, (r_ 353), (.int 624 0), (.int 242 0), (s_ "/claim/cut.py" 625)]))), a_ []⟩),
  (355, ⟨(.type "function"), none, (f_ (top 61) "matching_bound" "matching_bound" 3 n_ n_ n_ (s_ "trellis.check_searches" 589) none (r_ 354) n_ 0), a_ []⟩),
  (356, ⟨(.type "tuple"), none, (.seq (a_ []) 0), a_ []⟩),
  (357, ⟨n_, none, (.fields (a_ [])), a_ []⟩),
  (358, ⟨n_, none, (f_ (top 62) "check_matching" "check_matching" 0 n_ n_ n_ n_ none n_ n_ 0), a_ []⟩),
  (359, ⟨(.type "code"), none, (.fields (a_ ([(s_ "check_matching" 627), (s_ "check_matching" 628), (s_ "/claim/cut.py" 629), (.int 245 0), (.int 4 0), (.int 0 0), (.int 0 0), (.int 3 0), (r_ 356), (.bool true), (.int 181 0), (r_ 357), n_, n_, n_, (r_ 358), (.int 630 0), (.int 245 0), (s_ "/claim/cut.py" 631)]))), a_ []⟩),
  (360, ⟨(.type "function"), none, (f_ (top 62) "check_matching" "check_matching" 3 n_ n_ n_ (s_ "trellis.check_searches" 589) none (r_ 359) n_ 0), a_ []⟩),
  (361, ⟨(.type "tuple"), none, (.seq (a_ []) 0), a_ []⟩),
  (362, ⟨n_, none, (.fields (a_ [])), a_ []⟩)]
def nw1_14 (w : World) : List (Nat × Obj) := [
  (363, ⟨n_, none, (f_ (top 63) "near_with_degree" "near_with_degree" 0 n_ n_ n_ n_ none n_ n_ 0), a_ []⟩),
  (364, ⟨(.type "code"), none, (.fields (a_ ([(s_ "near_with_degree" 633), (s_ "near_with_degree" 634), (s_ "/claim/cut.py" 635), (.int 252 0), (.int 3 0), (.int 0 0), (.int 0 0), (.int 3 0), (r_ 361), (.bool true), (.int 181 0), (r_ 362), n_, n_, n_, (r_ 363), (.int 636 0), (.int 252 0), (s_ "/claim/cut.py" 637)]))), a_ []⟩),
  (365, ⟨(.type "function"), none, (f_ (top 63) "near_with_degree" "near_with_degree" 3 n_ n_ n_ (s_ "trellis.check_searches" 589) none (r_ 364) n_ 0), a_ []⟩),
  (366, ⟨(.type "tuple"), none, (.seq (a_ []) 0), a_ []⟩),
  (367, ⟨(.type "builtin_function_or_method"), none, (.fields (a_ ([(.builtin "type.__prepare__"), (.type "type")]))), a_ []⟩),
  (368, ⟨(.type "dict"), none, (.dict (a_ ([e_ w "__module__" 646 (s_ "trellis.check_searches" 589), e_ w "__qualname__" 648 (s_ "PairingChecker" 647), e_ w "__firstlineno__" 650 (.int 254 649), e_ w "__init__" 659 (r_ 379), e_ w "is_end" 672 (r_ 386), e_ w "is_search" 678 (r_ 391), e_ w "__static_attributes__" 681 (r_ 392)])) 7), a_ []⟩),
  (369, ⟨(.type "tuple"), none, (.seq (a_ []) 0), a_ []⟩),
  (370, ⟨n_, none, (.fields (a_ ([(.int 256 0), (.int 4 0), (r_ 378), (.int 260 0), (.int 4 0), (r_ 385), (.int 275 0), (.int 4 0), (r_ 390)]))), a_ []⟩),
  (371, ⟨(.type "code"), none, (.fields (a_ ([(s_ "PairingChecker" 641), (s_ "PairingChecker" 642), (s_ "/claim/cut.py" 643), (.int 254 0), (.int 0 0), (.int 0 0), (.int 0 0), (.int 0 0), (r_ 369), (.bool false), (.int 181 0), (r_ 370), n_, n_, n_, n_, (.int 644 0), (.int 254 0), (s_ "/claim/cut.py" 645)]))), a_ []⟩),
  (372, ⟨(.type "frame"), none, .plain, a_ ([some (r_ 371), some (r_ 3), some (r_ 368), none, some (s_ "trellis.check_searches" 589), none, some (r_ 0)])⟩),
  (373, ⟨(.type "tuple"), none, (.seq (a_ []) 0), a_ []⟩),
  (374, ⟨n_, none, (.fields (a_ [])), a_ []⟩),
  (375, ⟨(.type "tuple"), none, (.seq (a_ ([(s_ "self" 654), (s_ "graph" 655), (s_ "other" 656)])) 0), a_ []⟩),
  (376, ⟨(.type "tuple"), none, (.seq (a_ []) 0), a_ []⟩),
  (377, ⟨n_, none, (f_ (inClass (top 64) 0) "__init__" "PairingChecker.__init__" 0 n_ n_ n_ n_ none n_ n_ 0), a_ []⟩),
  (378, ⟨(.type "code"), none, (.fields (a_ ([(s_ "__init__" 651), (s_ "PairingChecker.__init__" 652), (s_ "/claim/cut.py" 653), (.int 256 0), (.int 3 0), (.int 0 0), (.int 0 0), (.int 3 0), (r_ 373), (.bool true), (.int 181 0), (r_ 374), n_, (r_ 375), (r_ 376), (r_ 377), (.int 657 0), (.int 256 0), (s_ "/claim/cut.py" 658)]))), a_ []⟩),
  (379, ⟨(.type "function"), none, (f_ (inClass (top 64) 0) "__init__" "PairingChecker.__init__" 3 n_ n_ n_ (s_ "trellis.check_searches" 589) none (r_ 378) n_ 0), a_ []⟩),
  (380, ⟨(.type "tuple"), none, (.seq (a_ []) 0), a_ []⟩),
  (381, ⟨n_, none, (.fields (a_ [])), a_ []⟩),
  (382, ⟨(.type "tuple"), none, (.seq (a_ ([(s_ "self" 663), (s_ "pairs" 664), (s_ "value" 665), (s_ "v" 666), (s_ "w" 667), (s_ "a" 668), (s_ "b" 669)])) 0), a_ []⟩),
  (383, ⟨(.type "tuple"), none, (.seq (a_ []) 0), a_ []⟩),
  (384, ⟨n_, none, (f_ (inClass (top 64) 1) "is_end" "PairingChecker.is_end" 0 n_ n_ n_ n_ none n_ n_ 0), a_ []⟩),
  (385, ⟨(.type "code"), none, (.fields (a_ ([(s_ "is_end" 660), (s_ "PairingChecker.is_end" 661), (s_ "/claim/cut.py" 662), (.int 260 0), (.int 3 0), (.int 0 0), (.int 0 0), (.int 3 0), (r_ 380), (.bool true), (.int 181 0), (r_ 381), n_, (r_ 382), (r_ 383), (r_ 384), (.int 670 0), (.int 260 0), (s_ "/claim/cut.py" 671)]))), a_ []⟩),
  (386, ⟨(.type "function"), none, (f_ (inClass (top 64) 1) "is_end" "PairingChecker.is_end" 3 n_ n_ n_ (s_ "trellis.check_searches" 589) none (r_ 385) n_ 0), a_ []⟩),
  (387, ⟨(.type "tuple"), none, (.seq (a_ []) 0), a_ []⟩)]
def nw1_15 (w : World) : List (Nat × Obj) := [
  (388, ⟨n_, none, (.fields (a_ [])), a_ []⟩),
  (389, ⟨n_, none, (f_ (inClass (top 64) 2) "is_search" "PairingChecker.is_search" 0 n_ n_ n_ n_ none n_ n_ 0), a_ []⟩),
  (390, ⟨(.type "code"), none, (.fields (a_ ([(s_ "is_search" 673), (s_ "PairingChecker.is_search" 674), (s_ "/claim/cut.py" 675), (.int 275 0), (.int 3 0), (.int 0 0), (.int 0 0), (.int 3 0), (r_ 387), (.bool true), (.int 181 0), (r_ 388), n_, n_, n_, (r_ 389), (.int 676 0), (.int 275 0), (s_ "/claim/cut.py" 677)]))), a_ []⟩),
  (391, ⟨(.type "function"), none, (f_ (inClass (top 64) 2) "is_search" "PairingChecker.is_search" 3 n_ n_ n_ (s_ "trellis.check_searches" 589) none (r_ 390) n_ 0), a_ []⟩),
  (392, ⟨(.type "tuple"), none, (.seq (a_ ([(s_ "graph" 679), (s_ "other" 680)])) 0), a_ []⟩),
  (393, ⟨(.type "dict"), none, (.dict (a_ ([e_ w "__module__" 646 (s_ "trellis.check_searches" 589), e_ w "__firstlineno__" 650 (.int 254 649), e_ w "__init__" 659 (r_ 379), e_ w "is_end" 672 (r_ 386), e_ w "is_search" 678 (r_ 391), e_ w "__static_attributes__" 681 (r_ 392), e_ w "__dict__" 683 (r_ 395), e_ w "__weakref__" 685 (r_ 396), e_ w "__doc__" 686 n_])) 4), a_ []⟩),
  (394, ⟨(.type "type"), none, (.cls ⟨(z "PairingChecker"), ([(.type "object")]), ([(r_ 394), (.type "object")]), 393, (z "PairingChecker"), true, [], [], false, none, false⟩), a_ ([none, none, some (s_ "PairingChecker" 639), some (s_ "PairingChecker" 647), some (.builtin "object.__new__"), some (.bool true)])⟩),
  (395, ⟨(.type "getset_descriptor"), none, (.fields (a_ ([(s_ "__dict__" 682), (r_ 394), (.builtin "function.__dict__"), (.builtin "function.__dict__#set")]))), a_ []⟩),
  (396, ⟨(.type "getset_descriptor"), none, (.fields (a_ ([(s_ "__weakref__" 684), (r_ 394), (.builtin "ExceptionGroup.__weakref__"), n_]))), a_ []⟩),
  (397, ⟨(.type "super"), none, (.fields (a_ ([(r_ 394), (r_ 394), (r_ 394)]))), a_ []⟩),
  (398, ⟨(.type "builtin_function_or_method"), none, (.fields (a_ ([(.builtin "object.__init_subclass__"), (r_ 394)]))), a_ []⟩),
  (399, ⟨(.type "tuple"), none, (.seq (a_ []) 0), a_ []⟩),
  (400, ⟨n_, none, (.fields (a_ [])), a_ []⟩),
  (401, ⟨(.type "tuple"), none, (.seq (a_ ([(s_ "graph" 692), (s_ "other" 693), (s_ "answer" 694), (s_ "data" 695)])) 0), a_ []⟩),
  (402, ⟨(.type "tuple"), none, (.seq (a_ []) 0), a_ []⟩),
  (403, ⟨n_, none, (f_ (top 65) "check_isomorphic" "check_isomorphic" 0 n_ n_ n_ n_ none n_ n_ 0), a_ []⟩),
  (404, ⟨(.type "code"), none, (.fields (a_ ([(s_ "check_isomorphic" 689), (s_ "check_isomorphic" 690), (s_ "/claim/cut.py" 691), (.int 283 0), (.int 4 0), (.int 0 0), (.int 0 0), (.int 3 0), (r_ 399), (.bool true), (.int 181 0), (r_ 400), n_, (r_ 401), (r_ 402), (r_ 403), (.int 696 0), (.int 283 0), (s_ "/claim/cut.py" 697)]))), a_ []⟩),
  (405, ⟨(.type "function"), none, (f_ (top 65) "check_isomorphic" "check_isomorphic" 3 n_ n_ n_ (s_ "trellis.check_searches" 589) none (r_ 404) n_ 0), a_ []⟩),
  (406, ⟨(.type "tuple"), none, (.seq (a_ []) 0), a_ []⟩),
  (407, ⟨n_, none, (.fields (a_ [])), a_ []⟩),
  (408, ⟨n_, none, (f_ (top 67) "fits" "fits" 0 n_ n_ n_ n_ none n_ n_ 0), a_ []⟩),
  (409, ⟨(.type "code"), none, (.fields (a_ ([(s_ "fits" 701), (s_ "fits" 702), (s_ "/claim/cut.py" 703), (.int 290 0), (.int 4 0), (.int 0 0), (.int 0 0), (.int 3 0), (r_ 406), (.bool true), (.int 181 0), (r_ 407), n_, n_, n_, (r_ 408), (.int 704 0), (.int 290 0), (s_ "/claim/cut.py" 705)]))), a_ []⟩),
  (410, ⟨(.type "function"), none, (f_ (top 67) "fits" "fits" 3 n_ n_ n_ (s_ "trellis.alike" 699) none (r_ 409) n_ 0), a_ []⟩),
  (411, ⟨(.type "tuple"), none, (.seq (a_ []) 0), a_ []⟩),
  (412, ⟨n_, none, (.fields (a_ [])), a_ []⟩)]
def nw1_16 (w : World) : List (Nat × Obj) := [
  (413, ⟨(.type "tuple"), none, (.seq (a_ ([(s_ "first" 710), (s_ "second" 711), (s_ "pairs" 712), (s_ "found" 713), (s_ "w" 714)])) 0), a_ []⟩),
  (414, ⟨(.type "tuple"), none, (.seq (a_ []) 0), a_ []⟩),
  (415, ⟨n_, none, (f_ (top 68) "pairings" "pairings" 0 n_ n_ n_ n_ none n_ n_ 0), a_ []⟩),
  (416, ⟨(.type "code"), none, (.fields (a_ ([(s_ "pairings" 707), (s_ "pairings" 708), (s_ "/claim/cut.py" 709), (.int 293 0), (.int 3 0), (.int 0 0), (.int 0 0), (.int 3 0), (r_ 411), (.bool true), (.int 181 0), (r_ 412), n_, (r_ 413), (r_ 414), (r_ 415), (.int 715 0), (.int 293 0), (s_ "/claim/cut.py" 716)]))), a_ []⟩),
  (417, ⟨(.type "function"), none, (f_ (top 68) "pairings" "pairings" 3 n_ n_ n_ (s_ "trellis.alike" 699) none (r_ 416) n_ 0), a_ []⟩),
  (418, ⟨(.type "tuple"), none, (.seq (a_ []) 0), a_ []⟩),
  (419, ⟨(.type "builtin_function_or_method"), none, (.fields (a_ ([(.builtin "type.__prepare__"), (.type "type")]))), a_ []⟩),
  (420, ⟨(.type "dict"), none, (.dict (a_ ([e_ w "__module__" 725 (s_ "trellis.alike" 699), e_ w "__qualname__" 727 (s_ "PairingFinder" 726), e_ w "__firstlineno__" 729 (.int 301 728), e_ w "__init__" 738 (r_ 431), e_ w "end" 750 (r_ 438), e_ w "search" 756 (r_ 443), e_ w "__static_attributes__" 760 (r_ 444)])) 7), a_ []⟩),
  (421, ⟨(.type "tuple"), none, (.seq (a_ []) 0), a_ []⟩),
  (422, ⟨n_, none, (.fields (a_ ([(.int 303 0), (.int 4 0), (r_ 430), (.int 308 0), (.int 4 0), (r_ 437), (.int 318 0), (.int 4 0), (r_ 442)]))), a_ []⟩),
  (423, ⟨(.type "code"), none, (.fields (a_ ([(s_ "PairingFinder" 720), (s_ "PairingFinder" 721), (s_ "/claim/cut.py" 722), (.int 301 0), (.int 0 0), (.int 0 0), (.int 0 0), (.int 0 0), (r_ 421), (.bool false), (.int 181 0), (r_ 422), n_, n_, n_, n_, (.int 723 0), (.int 301 0), (s_ "/claim/cut.py" 724)]))), a_ []⟩),
  (424, ⟨(.type "frame"), none, .plain, a_ ([some (r_ 423), some (r_ 3), some (r_ 420), none, some (s_ "trellis.alike" 699), none, some (r_ 0)])⟩),
  (425, ⟨(.type "tuple"), none, (.seq (a_ []) 0), a_ []⟩),
  (426, ⟨n_, none, (.fields (a_ [])), a_ []⟩),
  (427, ⟨(.type "tuple"), none, (.seq (a_ ([(s_ "self" 733), (s_ "graph" 734), (s_ "other" 735)])) 0), a_ []⟩),
  (428, ⟨(.type "tuple"), none, (.seq (a_ []) 0), a_ []⟩),
  (429, ⟨n_, none, (f_ (inClass (top 69) 0) "__init__" "PairingFinder.__init__" 0 n_ n_ n_ n_ none n_ n_ 0), a_ []⟩),
  (430, ⟨(.type "code"), none, (.fields (a_ ([(s_ "__init__" 730), (s_ "PairingFinder.__init__" 731), (s_ "/claim/cut.py" 732), (.int 303 0), (.int 3 0), (.int 0 0), (.int 0 0), (.int 3 0), (r_ 425), (.bool true), (.int 181 0), (r_ 426), n_, (r_ 427), (r_ 428), (r_ 429), (.int 736 0), (.int 303 0), (s_ "/claim/cut.py" 737)]))), a_ []⟩),
  (431, ⟨(.type "function"), none, (f_ (inClass (top 69) 0) "__init__" "PairingFinder.__init__" 3 n_ n_ n_ (s_ "trellis.alike" 699) none (r_ 430) n_ 0), a_ []⟩),
  (432, ⟨(.type "tuple"), none, (.seq (a_ []) 0), a_ []⟩),
  (433, ⟨n_, none, (.fields (a_ [])), a_ []⟩),
  (434, ⟨(.type "tuple"), none, (.seq (a_ ([(s_ "self" 742), (s_ "pairs" 743), (s_ "v" 744), (s_ "w" 745), (s_ "value" 746), (s_ "d" 747)])) 0), a_ []⟩),
  (435, ⟨(.type "tuple"), none, (.seq (a_ []) 0), a_ []⟩),
  (436, ⟨n_, none, (f_ (inClass (top 69) 1) "end" "PairingFinder.end" 0 n_ n_ n_ n_ none n_ n_ 0), a_ []⟩),
  (437, ⟨(.type "code"), none, (.fields (a_ ([(s_ "end" 739), (s_ "PairingFinder.end" 740), (s_ "/claim/cut.py" 741), (.int 308 0), (.int 2 0), (.int 0 0), (.int 0 0), (.int 3 0), (r_ 432), (.bool true), (.int 181 0), (r_ 433), n_, (r_ 434), (r_ 435), (r_ 436), (.int 748 0), (.int 308 0), (s_ "/claim/cut.py" 749)]))), a_ []⟩)]
def nw1_17 (w : World) : List (Nat × Obj) := [
  (438, ⟨(.type "function"), none, (f_ (inClass (top 69) 1) "end" "PairingFinder.end" 3 n_ n_ n_ (s_ "trellis.alike" 699) none (r_ 437) n_ 0), a_ []⟩),
  (439, ⟨(.type "tuple"), none, (.seq (a_ []) 0), a_ []⟩),
  (440, ⟨n_, none, (.fields (a_ [])), a_ []⟩),
  (441, ⟨n_, none, (f_ (inClass (top 69) 2) "search" "PairingFinder.search" 0 n_ n_ n_ n_ none n_ n_ 0), a_ []⟩),
  (442, ⟨(.type "code"), none, (.fields (a_ ([(s_ "search" 751), (s_ "PairingFinder.search" 752), (s_ "/claim/cut.py" 753), (.int 318 0), (.int 2 0), (.int 0 0), (.int 0 0), (.int 3 0), (r_ 439), (.bool true), (.int 181 0), (r_ 440), n_, n_, n_, (r_ 441), (.int 754 0), (.int 318 0), (s_ "/claim/cut.py" 755)]))), a_ []⟩),
  (443, ⟨(.type "function"), none, (f_ (inClass (top 69) 2) "search" "PairingFinder.search" 3 n_ n_ n_ (s_ "trellis.alike" 699) none (r_ 442) n_ 0), a_ []⟩),
  (444, ⟨(.type "tuple"), none, (.seq (a_ ([(s_ "checker" 757), (s_ "graph" 758), (s_ "other" 759)])) 0), a_ []⟩),
  (445, ⟨(.type "dict"), none, (.dict (a_ ([e_ w "__module__" 725 (s_ "trellis.alike" 699), e_ w "__firstlineno__" 729 (.int 301 728), e_ w "__init__" 738 (r_ 431), e_ w "end" 750 (r_ 438), e_ w "search" 756 (r_ 443), e_ w "__static_attributes__" 760 (r_ 444), e_ w "__dict__" 762 (r_ 447), e_ w "__weakref__" 764 (r_ 448), e_ w "__doc__" 765 n_])) 4), a_ []⟩),
  (446, ⟨(.type "type"), none, (.cls ⟨(z "PairingFinder"), ([(.type "object")]), ([(r_ 446), (.type "object")]), 445, (z "PairingFinder"), true, [], [], false, none, false⟩), a_ ([none, none, some (s_ "PairingFinder" 718), some (s_ "PairingFinder" 726), some (.builtin "object.__new__"), some (.bool true)])⟩),
  (447, ⟨(.type "getset_descriptor"), none, (.fields (a_ ([(s_ "__dict__" 761), (r_ 446), (.builtin "function.__dict__"), (.builtin "function.__dict__#set")]))), a_ []⟩),
  (448, ⟨(.type "getset_descriptor"), none, (.fields (a_ ([(s_ "__weakref__" 763), (r_ 446), (.builtin "ExceptionGroup.__weakref__"), n_]))), a_ []⟩),
  (449, ⟨(.type "super"), none, (.fields (a_ ([(r_ 446), (r_ 446), (r_ 446)]))), a_ []⟩),
  (450, ⟨(.type "builtin_function_or_method"), none, (.fields (a_ ([(.builtin "object.__init_subclass__"), (r_ 446)]))), a_ []⟩)]
def tr2 (w : World) : BT := insL (nw1_17 w) (insL (nw1_16 w) (insL (nw1_15 w) (insL (nw1_14 w) (insL (nw1_13 w) (insL (nw1_12 w) (insL (nw1_11 w) (insL (nw1_10 w) (insL (nw1_9 w) (insL (nw1_8 w) (insL (nw1_7 w) (insL (nw1_6 w) (insL (nw1_5 w) (insL (nw1_4 w) (insL (nw1_3 w) (insL (nw1_2 w) (insL (nw1_1 w) (insL (nw1_0 w) (tr1 w))))))))))))))))))
def nw2_0 (w : World) : List (Nat × Obj) := [
  (3, ⟨(.type "dict"), none, (.dict (a_ ([e_ w "__name__" 165 (s_ "trellis.drawers" 1315), e_ w "__doc__" 166 n_, e_ w "__package__" 167 n_, e_ w "__loader__" 168 (.builtin "__main__.__loader__#opaque"), e_ w "__spec__" 169 n_, e_ w "__annotations__" 170 (r_ 6), e_ w "__builtins__" 171 (r_ 4), e_ w "__file__" 173 (s_ "/claim/cut.py" 172), e_ w "__cached__" 174 n_, e_ w "TrellisError" 206 (r_ 24), e_ w "BadGraph" 222 (r_ 37), e_ w "BadQuestion" 238 (r_ 49), e_ w "MOST_VERTICES" 242 (.int 60 241), e_ w "is_integer" 249 (r_ 58), e_ w "is_integer_tuple" 255 (r_ 63), e_ w "is_ascending" 261 (r_ 68), e_ w "is_graph" 271 (r_ 75), e_ w "pair_of" 279 (r_ 82), e_ w "made_graph" 290 (r_ 89), e_ w "are_neighbours" 299 (r_ 96), e_ w "neighbours" 305 (r_ 101), e_ w "inside" 311 (r_ 106), e_ w "part_of" 324 (r_ 113), e_ w "parts_of" 330 (r_ 118), e_ w "components" 337 (r_ 125), e_ w "is_connected" 345 (r_ 132), e_ w "complement" 351 (r_ 137), e_ w "induced" 357 (r_ 142), e_ w "renamed" 363 (r_ 147), e_ w "is_vertex_tuple" 371 (r_ 152)] ++ [e_ w "is_set" 379 (r_ 159), e_ w "is_order" 387 (r_ 166), e_ w "is_edge" 395 (r_ 173), e_ w "is_arrow" 403 (r_ 180), e_ w "is_tuple_of" 411 (r_ 187), e_ w "are_sets" 417 (r_ 192), e_ w "are_edges" 423 (r_ 197), e_ w "is_direction" 429 (r_ 202), e_ w "is_clique" 435 (r_ 207), e_ w "is_split" 443 (r_ 214), e_ w "is_small_integer" 451 (r_ 221), e_ w "is_path" 459 (r_ 226), e_ w "is_path_between" 469 (r_ 233), e_ w "is_cycle" 477 (r_ 240), e_ w "shortest_path" 492 (r_ 247), e_ w "without_edge" 498 (r_ 252), e_ w "shortest_cycle" 508 (r_ 259), e_ w "connects_all" 518 (r_ 266), e_ w "is_spanning_tree" 526 (r_ 273), e_ w "crosses" 534 (r_ 280), e_ w "check_connected" 540 (r_ 285), e_ w "check_bipartite" 546 (r_ 290), e_ w "behind" 552 (r_ 295), e_ w "check_forest" 558 (r_ 300), e_ w "are_ears" 564 (r_ 305), e_ w "check_block" 570 (r_ 310), e_ w "are_apart" 576 (r_ 315), e_ w "check_linked" 582 (r_ 320), e_ w "components_without" 588 (r_ 325), e_ w "merged" 596 (r_ 330)] ++ [e_ w "is_colour_search" 602 (r_ 335), e_ w "check_colours" 608 (r_ 340), e_ w "is_set_search" 614 (r_ 345), e_ w "check_independent" 620 (r_ 350), e_ w "matching_bound" 626 (r_ 355), e_ w "check_matching" 632 (r_ 360), e_ w "near_with_degree" 638 (r_ 365), e_ w "PairingChecker" 688 (r_ 394), e_ w "check_isomorphic" 698 (r_ 405), e_ w "fits" 706 (r_ 410), e_ w "pairings" 717 (r_ 417), e_ w "PairingFinder" 767 (r_ 446), e_ w "decide_isomorphic" 776 (r_ 457), e_ w "has_no_chord" 791 (r_ 464), e_ w "is_hole" 799 (r_ 471), e_ w "check_chordal" 805 (r_ 476), e_ w "is_interval" 812 (r_ 483), e_ w "do_meet" 820 (r_ 490), e_ w "is_asteroid" 826 (r_ 495), e_ w "check_interval" 832 (r_ 500), e_ w "forces" 845 (r_ 507), e_ w "is_chain" 851 (r_ 512), e_ w "is_transitive" 862 (r_ 519), e_ w "check_comparability" 871 (r_ 526), e_ w "check_permutation" 886 (r_ 533), e_ w "leaves_of" 896 (r_ 540), e_ w "joined_pairs" 902 (r_ 545), e_ w "check_cograph" 912 (r_ 552), e_ w "find_hole" 920 (r_ 557), e_ w "clique_order" 926 (r_ 562)] ++ [e_ w "decide_chordal" 934 (r_ 569), e_ w "largest_cliques" 940 (r_ 574), e_ w "are_together" 946 (r_ 579), e_ w "clique_row" 958 (r_ 586), e_ w "may_go_on" 964 (r_ 591), e_ w "asteroid" 980 (r_ 598), e_ w "decide_interval" 986 (r_ 603), e_ w "all_arrows" 992 (r_ 608), e_ w "forced_arrows" 998 (r_ 613), e_ w "forcing_ways" 1010 (r_ 620), e_ w "arrow_classes" 1016 (r_ 625), e_ w "find_chain" 1028 (r_ 632), e_ w "transitive_direction" 1034 (r_ 637), e_ w "decide_comparability" 1040 (r_ 642), e_ w "row_of" 1046 (r_ 647), e_ w "decide_permutation" 1052 (r_ 652), e_ w "search_tree" 1066 (r_ 659), e_ w "decide_connected" 1072 (r_ 664), e_ w "way_up" 1081 (r_ 671), e_ w "ring" 1087 (r_ 676), e_ w "decide_bipartite" 1093 (r_ 681), e_ w "stripped" 1099 (r_ 686), e_ w "decide_forest" 1108 (r_ 693), e_ w "cut_of" 1114 (r_ 698), e_ w "next_ear" 1120 (r_ 703), e_ w "decide_block" 1130 (r_ 710), e_ w "PathSystem" 1208 (r_ 753), e_ w "decide_linked" 1221 (r_ 764), e_ w "next_arrow" 1234 (r_ 771), e_ w "faces" 1240 (r_ 776)] ++ [e_ w "block_sets" 1246 (r_ 781), e_ w "blocks" 1255 (r_ 788), e_ w "is_rotation" 1263 (r_ 793), e_ w "is_flat" 1269 (r_ 798), e_ w "are_lines" 1275 (r_ 803), e_ w "all_pairs" 1281 (r_ 808), e_ w "sided_pairs" 1287 (r_ 813), e_ w "is_star" 1293 (r_ 818), e_ w "check_planar" 1302 (r_ 825), e_ w "do_cross" 1308 (r_ 830), e_ w "check_outerplanar" 1314 (r_ 835), e_ w "Piece" 1353 (r_ 857), e_ w "Drawer" 1433 (r_ 915), e_ w "block_rotation" 1439 (r_ 924), e_ w "flat_rotation" 1445 (r_ 929), e_ w "ring_order" 1451 (r_ 934)])) 136), a_ []⟩),
  (12, ⟨n_, none, (.fields (a_ ([(.int 2 0), (.int 0 0), (r_ 20), (.int 4 0), (.int 0 0), (r_ 33), (.int 6 0), (.int 0 0), (r_ 45), (.int 10 0), (.int 0 0), (r_ 57), (.int 12 0), (.int 0 0), (r_ 62), (.int 14 0), (.int 0 0), (r_ 67), (.int 16 0), (.int 0 0), (r_ 74), (.int 26 0), (.int 0 0), (r_ 81), (.int 28 0), (.int 0 0), (r_ 88), (.int 37 0), (.int 0 0), (r_ 95)] ++ [(.int 39 0), (.int 0 0), (r_ 100), (.int 41 0), (.int 0 0), (r_ 105), (.int 43 0), (.int 0 0), (r_ 112), (.int 53 0), (.int 0 0), (r_ 117), (.int 59 0), (.int 0 0), (r_ 124), (.int 61 0), (.int 0 0), (r_ 131), (.int 63 0), (.int 0 0), (r_ 136), (.int 66 0), (.int 0 0), (r_ 141), (.int 70 0), (.int 0 0), (r_ 146), (.int 73 0), (.int 0 0), (r_ 151)] ++ [(.int 77 0), (.int 0 0), (r_ 158), (.int 79 0), (.int 0 0), (r_ 165), (.int 81 0), (.int 0 0), (r_ 172), (.int 83 0), (.int 0 0), (r_ 179), (.int 87 0), (.int 0 0), (r_ 186), (.int 89 0), (.int 0 0), (r_ 191), (.int 91 0), (.int 0 0), (r_ 196), (.int 93 0), (.int 0 0), (r_ 201), (.int 97 0), (.int 0 0), (r_ 206), (.int 99 0), (.int 0 0), (r_ 213)] ++ [(.int 101 0), (.int 0 0), (r_ 220), (.int 104 0), (.int 0 0), (r_ 225), (.int 108 0), (.int 0 0), (r_ 232), (.int 110 0), (.int 0 0), (r_ 239), (.int 112 0), (.int 0 0), (r_ 246), (.int 128 0), (.int 0 0), (r_ 251), (.int 130 0), (.int 0 0), (r_ 258), (.int 138 0), (.int 0 0), (r_ 265), (.int 140 0), (.int 0 0), (r_ 272), (.int 142 0), (.int 0 0), (r_ 279)] ++ [(.int 144 0), (.int 0 0), (r_ 284), (.int 150 0), (.int 0 0), (r_ 289), (.int 154 0), (.int 0 0), (r_ 294), (.int 157 0), (.int 0 0), (r_ 299), (.int 161 0), (.int 0 0), (r_ 304), (.int 172 0), (.int 0 0), (r_ 309), (.int 185 0), (.int 0 0), (r_ 314), (.int 188 0), (.int 0 0), (r_ 319), (.int 198 0), (.int 0 0), (r_ 324), (.int 201 0), (.int 0 0), (r_ 329)] ++ [(.int 204 0), (.int 0 0), (r_ 334), (.int 218 0), (.int 0 0), (r_ 339), (.int 224 0), (.int 0 0), (r_ 344), (.int 236 0), (.int 0 0), (r_ 349), (.int 242 0), (.int 0 0), (r_ 354), (.int 245 0), (.int 0 0), (r_ 359), (.int 252 0), (.int 0 0), (r_ 364), (.int 254 0), (.int 0 0), (r_ 371), (.int 283 0), (.int 0 0), (r_ 404), (.int 290 0), (.int 0 0), (r_ 409)] ++ [(.int 293 0), (.int 0 0), (r_ 416), (.int 301 0), (.int 0 0), (r_ 423), (.int 326 0), (.int 0 0), (r_ 456), (.int 332 0), (.int 0 0), (r_ 463), (.int 339 0), (.int 0 0), (r_ 470), (.int 341 0), (.int 0 0), (r_ 475), (.int 347 0), (.int 0 0), (r_ 482), (.int 349 0), (.int 0 0), (r_ 489), (.int 351 0), (.int 0 0), (r_ 494), (.int 361 0), (.int 0 0), (r_ 499)] ++ [(.int 371 0), (.int 0 0), (r_ 506), (.int 377 0), (.int 0 0), (r_ 511), (.int 383 0), (.int 0 0), (r_ 518), (.int 389 0), (.int 0 0), (r_ 525), (.int 393 0), (.int 0 0), (r_ 532), (.int 410 0), (.int 0 0), (r_ 539), (.int 422 0), (.int 0 0), (r_ 544), (.int 434 0), (.int 0 0), (r_ 551), (.int 442 0), (.int 0 0), (r_ 556), (.int 453 0), (.int 0 0), (r_ 561)] ++ [(.int 463 0), (.int 0 0), (r_ 568), (.int 466 0), (.int 0 0), (r_ 573), (.int 471 0), (.int 0 0), (r_ 578), (.int 477 0), (.int 0 0), (r_ 585), (.int 487 0), (.int 0 0), (r_ 590), (.int 495 0), (.int 0 0), (r_ 597), (.int 507 0), (.int 0 0), (r_ 602), (.int 517 0), (.int 0 0), (r_ 607), (.int 519 0), (.int 0 0), (r_ 612), (.int 521 0), (.int 0 0), (r_ 619)] ++ [(.int 531 0), (.int 0 0), (r_ 624), (.int 537 0), (.int 0 0), (r_ 631), (.int 549 0), (.int 0 0), (r_ 636), (.int 557 0), (.int 0 0), (r_ 641), (.int 563 0), (.int 0 0), (r_ 646), (.int 566 0), (.int 0 0), (r_ 651), (.int 577 0), (.int 0 0), (r_ 658), (.int 587 0), (.int 0 0), (r_ 663), (.int 592 0), (.int 0 0), (r_ 670), (.int 597 0), (.int 0 0), (r_ 675)] ++ [(.int 603 0), (.int 0 0), (r_ 680), (.int 613 0), (.int 0 0), (r_ 685), (.int 622 0), (.int 0 0), (r_ 692), (.int 625 0), (.int 0 0), (r_ 697), (.int 631 0), (.int 0 0), (r_ 702), (.int 640 0), (.int 0 0), (r_ 709), (.int 652 0), (.int 0 0), (r_ 716), (.int 707 0), (.int 0 0), (r_ 763), (.int 717 0), (.int 0 0), (r_ 770), (.int 721 0), (.int 0 0), (r_ 775)] ++ [(.int 731 0), (.int 0 0), (r_ 780), (.int 740 0), (.int 0 0), (r_ 787), (.int 747 0), (.int 0 0), (r_ 792), (.int 751 0), (.int 0 0), (r_ 797), (.int 759 0), (.int 0 0), (r_ 802), (.int 767 0), (.int 0 0), (r_ 807), (.int 769 0), (.int 0 0), (r_ 812), (.int 771 0), (.int 0 0), (r_ 817), (.int 776 0), (.int 0 0), (r_ 824), (.int 780 0), (.int 0 0), (r_ 829)] ++ [(.int 787 0), (.int 0 0), (r_ 834), (.int 797 0), (.int 0 0), (r_ 841), (.int 809 0), (.int 0 0), (r_ 867), (.int 867 0), (.int 0 0), (r_ 923), (.int 871 0), (.int 0 0), (r_ 928), (.int 880 0), (.int 0 0), (r_ 933)]))), a_ []⟩),
  (451, ⟨(.type "tuple"), none, (.seq (a_ []) 0), a_ []⟩),
  (452, ⟨n_, none, (.fields (a_ [])), a_ []⟩),
  (453, ⟨(.type "tuple"), none, (.seq (a_ ([(s_ "graph" 771), (s_ "other" 772), (s_ "found" 773)])) 0), a_ []⟩),
  (454, ⟨(.type "tuple"), none, (.seq (a_ []) 0), a_ []⟩),
  (455, ⟨n_, none, (f_ (top 70) "decide_isomorphic" "decide_isomorphic" 0 n_ n_ n_ n_ none n_ n_ 0), a_ []⟩),
  (456, ⟨(.type "code"), none, (.fields (a_ ([(s_ "decide_isomorphic" 768), (s_ "decide_isomorphic" 769), (s_ "/claim/cut.py" 770), (.int 326 0), (.int 2 0), (.int 0 0), (.int 0 0), (.int 3 0), (r_ 451), (.bool true), (.int 181 0), (r_ 452), n_, (r_ 453), (r_ 454), (r_ 455), (.int 774 0), (.int 326 0), (s_ "/claim/cut.py" 775)]))), a_ []⟩),
  (457, ⟨(.type "function"), none, (f_ (top 70) "decide_isomorphic" "decide_isomorphic" 3 n_ n_ n_ (s_ "trellis.alike" 699) none (r_ 456) n_ 0), a_ []⟩),
  (458, ⟨(.type "tuple"), none, (.seq (a_ []) 0), a_ []⟩),
  (459, ⟨n_, none, (.fields (a_ [])), a_ []⟩),
  (460, ⟨(.type "tuple"), none, (.seq (a_ ([(s_ "graph" 782), (s_ "value" 783), (s_ "closed" 784), (s_ "last" 785), (s_ "i" 786), (s_ "u" 787), (s_ "j" 788)])) 0), a_ []⟩),
  (461, ⟨(.type "tuple"), none, (.seq (a_ []) 0), a_ []⟩),
  (462, ⟨n_, none, (f_ (top 72) "has_no_chord" "has_no_chord" 0 n_ n_ n_ n_ none n_ n_ 0), a_ []⟩),
  (463, ⟨(.type "code"), none, (.fields (a_ ([(s_ "has_no_chord" 779), (s_ "has_no_chord" 780), (s_ "/claim/cut.py" 781), (.int 332 0), (.int 3 0), (.int 0 0), (.int 0 0), (.int 3 0), (r_ 458), (.bool true), (.int 181 0), (r_ 459), n_, (r_ 460), (r_ 461), (r_ 462), (.int 789 0), (.int 332 0), (s_ "/claim/cut.py" 790)]))), a_ []⟩),
  (464, ⟨(.type "function"), none, (f_ (top 72) "has_no_chord" "has_no_chord" 3 n_ n_ n_ (s_ "trellis.check_classes" 777) none (r_ 463) n_ 0), a_ []⟩),
  (465, ⟨(.type "tuple"), none, (.seq (a_ []) 0), a_ []⟩),
  (466, ⟨n_, none, (.fields (a_ [])), a_ []⟩),
  (467, ⟨(.type "tuple"), none, (.seq (a_ ([(s_ "graph" 795), (s_ "value" 796)])) 0), a_ []⟩),
  (468, ⟨(.type "tuple"), none, (.seq (a_ []) 0), a_ []⟩),
  (469, ⟨n_, none, (f_ (top 73) "is_hole" "is_hole" 0 n_ n_ n_ n_ none n_ n_ 0), a_ []⟩),
  (470, ⟨(.type "code"), none, (.fields (a_ ([(s_ "is_hole" 792), (s_ "is_hole" 793), (s_ "/claim/cut.py" 794), (.int 339 0), (.int 2 0), (.int 0 0), (.int 0 0), (.int 3 0), (r_ 465), (.bool true), (.int 181 0), (r_ 466), n_, (r_ 467), (r_ 468), (r_ 469), (.int 797 0), (.int 339 0), (s_ "/claim/cut.py" 798)]))), a_ []⟩),
  (471, ⟨(.type "function"), none, (f_ (top 73) "is_hole" "is_hole" 3 n_ n_ n_ (s_ "trellis.check_classes" 777) none (r_ 470) n_ 0), a_ []⟩),
  (472, ⟨(.type "tuple"), none, (.seq (a_ []) 0), a_ []⟩),
  (473, ⟨n_, none, (.fields (a_ [])), a_ []⟩)]
def nw2_1 (w : World) : List (Nat × Obj) := [
  (474, ⟨n_, none, (f_ (top 74) "check_chordal" "check_chordal" 0 n_ n_ n_ n_ none n_ n_ 0), a_ []⟩),
  (475, ⟨(.type "code"), none, (.fields (a_ ([(s_ "check_chordal" 800), (s_ "check_chordal" 801), (s_ "/claim/cut.py" 802), (.int 341 0), (.int 3 0), (.int 0 0), (.int 0 0), (.int 3 0), (r_ 472), (.bool true), (.int 181 0), (r_ 473), n_, n_, n_, (r_ 474), (.int 803 0), (.int 341 0), (s_ "/claim/cut.py" 804)]))), a_ []⟩),
  (476, ⟨(.type "function"), none, (f_ (top 74) "check_chordal" "check_chordal" 3 n_ n_ n_ (s_ "trellis.check_classes" 777) none (r_ 475) n_ 0), a_ []⟩),
  (477, ⟨(.type "tuple"), none, (.seq (a_ []) 0), a_ []⟩),
  (478, ⟨n_, none, (.fields (a_ [])), a_ []⟩),
  (479, ⟨(.type "tuple"), none, (.seq (a_ ([(s_ "value" 809)])) 0), a_ []⟩),
  (480, ⟨(.type "tuple"), none, (.seq (a_ []) 0), a_ []⟩),
  (481, ⟨n_, none, (f_ (top 75) "is_interval" "is_interval" 0 n_ n_ n_ n_ none n_ n_ 0), a_ []⟩),
  (482, ⟨(.type "code"), none, (.fields (a_ ([(s_ "is_interval" 806), (s_ "is_interval" 807), (s_ "/claim/cut.py" 808), (.int 347 0), (.int 1 0), (.int 0 0), (.int 0 0), (.int 3 0), (r_ 477), (.bool true), (.int 181 0), (r_ 478), n_, (r_ 479), (r_ 480), (r_ 481), (.int 810 0), (.int 347 0), (s_ "/claim/cut.py" 811)]))), a_ []⟩),
  (483, ⟨(.type "function"), none, (f_ (top 75) "is_interval" "is_interval" 3 n_ n_ n_ (s_ "trellis.check_classes" 777) none (r_ 482) n_ 0), a_ []⟩),
  (484, ⟨(.type "tuple"), none, (.seq (a_ []) 0), a_ []⟩),
  (485, ⟨n_, none, (.fields (a_ [])), a_ []⟩),
  (486, ⟨(.type "tuple"), none, (.seq (a_ ([(s_ "first" 816), (s_ "second" 817)])) 0), a_ []⟩),
  (487, ⟨(.type "tuple"), none, (.seq (a_ []) 0), a_ []⟩),
  (488, ⟨n_, none, (f_ (top 76) "do_meet" "do_meet" 0 n_ n_ n_ n_ none n_ n_ 0), a_ []⟩),
  (489, ⟨(.type "code"), none, (.fields (a_ ([(s_ "do_meet" 813), (s_ "do_meet" 814), (s_ "/claim/cut.py" 815), (.int 349 0), (.int 2 0), (.int 0 0), (.int 0 0), (.int 3 0), (r_ 484), (.bool true), (.int 181 0), (r_ 485), n_, (r_ 486), (r_ 487), (r_ 488), (.int 818 0), (.int 349 0), (s_ "/claim/cut.py" 819)]))), a_ []⟩),
  (490, ⟨(.type "function"), none, (f_ (top 76) "do_meet" "do_meet" 3 n_ n_ n_ (s_ "trellis.check_classes" 777) none (r_ 489) n_ 0), a_ []⟩),
  (491, ⟨(.type "tuple"), none, (.seq (a_ []) 0), a_ []⟩),
  (492, ⟨n_, none, (.fields (a_ [])), a_ []⟩),
  (493, ⟨n_, none, (f_ (top 77) "is_asteroid" "is_asteroid" 0 n_ n_ n_ n_ none n_ n_ 0), a_ []⟩),
  (494, ⟨(.type "code"), none, (.fields (a_ ([(s_ "is_asteroid" 821), (s_ "is_asteroid" 822), (s_ "/claim/cut.py" 823), (.int 351 0), (.int 2 0), (.int 0 0), (.int 0 0), (.int 3 0), (r_ 491), (.bool true), (.int 181 0), (r_ 492), n_, n_, n_, (r_ 493), (.int 824 0), (.int 351 0), (s_ "/claim/cut.py" 825)]))), a_ []⟩),
  (495, ⟨(.type "function"), none, (f_ (top 77) "is_asteroid" "is_asteroid" 3 n_ n_ n_ (s_ "trellis.check_classes" 777) none (r_ 494) n_ 0), a_ []⟩),
  (496, ⟨(.type "tuple"), none, (.seq (a_ []) 0), a_ []⟩),
  (497, ⟨n_, none, (.fields (a_ [])), a_ []⟩),
  (498, ⟨n_, none, (f_ (top 78) "check_interval" "check_interval" 0 n_ n_ n_ n_ none n_ n_ 0), a_ []⟩)]
def nw2_2 (w : World) : List (Nat × Obj) := [
  (499, ⟨(.type "code"), none, (.fields (a_ ([(s_ "check_interval" 827), (s_ "check_interval" 828), (s_ "/claim/cut.py" 829), (.int 361 0), (.int 3 0), (.int 0 0), (.int 0 0), (.int 3 0), (r_ 496), (.bool true), (.int 181 0), (r_ 497), n_, n_, n_, (r_ 498), (.int 830 0), (.int 361 0), (s_ "/claim/cut.py" 831)]))), a_ []⟩),
  (500, ⟨(.type "function"), none, (f_ (top 78) "check_interval" "check_interval" 3 n_ n_ n_ (s_ "trellis.check_classes" 777) none (r_ 499) n_ 0), a_ []⟩),
  (501, ⟨(.type "tuple"), none, (.seq (a_ []) 0), a_ []⟩),
  (502, ⟨n_, none, (.fields (a_ [])), a_ []⟩),
  (503, ⟨(.type "tuple"), none, (.seq (a_ ([(s_ "graph" 836), (s_ "first" 837), (s_ "second" 838), (s_ "a" 839), (s_ "b" 840), (s_ "c" 841), (s_ "d" 842)])) 0), a_ []⟩),
  (504, ⟨(.type "tuple"), none, (.seq (a_ []) 0), a_ []⟩),
  (505, ⟨n_, none, (f_ (top 79) "forces" "forces" 0 n_ n_ n_ n_ none n_ n_ 0), a_ []⟩),
  (506, ⟨(.type "code"), none, (.fields (a_ ([(s_ "forces" 833), (s_ "forces" 834), (s_ "/claim/cut.py" 835), (.int 371 0), (.int 3 0), (.int 0 0), (.int 0 0), (.int 3 0), (r_ 501), (.bool true), (.int 181 0), (r_ 502), n_, (r_ 503), (r_ 504), (r_ 505), (.int 843 0), (.int 371 0), (s_ "/claim/cut.py" 844)]))), a_ []⟩),
  (507, ⟨(.type "function"), none, (f_ (top 79) "forces" "forces" 3 n_ n_ n_ (s_ "trellis.check_classes" 777) none (r_ 506) n_ 0), a_ []⟩),
  (508, ⟨(.type "tuple"), none, (.seq (a_ []) 0), a_ []⟩),
  (509, ⟨n_, none, (.fields (a_ [])), a_ []⟩),
  (510, ⟨n_, none, (f_ (top 80) "is_chain" "is_chain" 0 n_ n_ n_ n_ none n_ n_ 0), a_ []⟩),
  (511, ⟨(.type "code"), none, (.fields (a_ ([(s_ "is_chain" 846), (s_ "is_chain" 847), (s_ "/claim/cut.py" 848), (.int 377 0), (.int 2 0), (.int 0 0), (.int 0 0), (.int 3 0), (r_ 508), (.bool true), (.int 181 0), (r_ 509), n_, n_, n_, (r_ 510), (.int 849 0), (.int 377 0), (s_ "/claim/cut.py" 850)]))), a_ []⟩),
  (512, ⟨(.type "function"), none, (f_ (top 80) "is_chain" "is_chain" 3 n_ n_ n_ (s_ "trellis.check_classes" 777) none (r_ 511) n_ 0), a_ []⟩),
  (513, ⟨(.type "tuple"), none, (.seq (a_ []) 0), a_ []⟩),
  (514, ⟨n_, none, (.fields (a_ [])), a_ []⟩),
  (515, ⟨(.type "tuple"), none, (.seq (a_ ([(s_ "arrows" 855), (s_ "u" 856), (s_ "v" 857), (s_ "w" 858), (s_ "x" 859)])) 0), a_ []⟩),
  (516, ⟨(.type "tuple"), none, (.seq (a_ []) 0), a_ []⟩),
  (517, ⟨n_, none, (f_ (top 81) "is_transitive" "is_transitive" 0 n_ n_ n_ n_ none n_ n_ 0), a_ []⟩),
  (518, ⟨(.type "code"), none, (.fields (a_ ([(s_ "is_transitive" 852), (s_ "is_transitive" 853), (s_ "/claim/cut.py" 854), (.int 383 0), (.int 1 0), (.int 0 0), (.int 0 0), (.int 3 0), (r_ 513), (.bool true), (.int 181 0), (r_ 514), n_, (r_ 515), (r_ 516), (r_ 517), (.int 860 0), (.int 383 0), (s_ "/claim/cut.py" 861)]))), a_ []⟩),
  (519, ⟨(.type "function"), none, (f_ (top 81) "is_transitive" "is_transitive" 3 n_ n_ n_ (s_ "trellis.check_classes" 777) none (r_ 518) n_ 0), a_ []⟩),
  (520, ⟨(.type "tuple"), none, (.seq (a_ []) 0), a_ []⟩),
  (521, ⟨n_, none, (.fields (a_ [])), a_ []⟩),
  (522, ⟨(.type "tuple"), none, (.seq (a_ ([(s_ "graph" 866), (s_ "answer" 867), (s_ "data" 868)])) 0), a_ []⟩),
  (523, ⟨(.type "tuple"), none, (.seq (a_ []) 0), a_ []⟩)]
def nw2_3 (w : World) : List (Nat × Obj) := [
  (524, ⟨n_, none, (f_ (top 82) "check_comparability" "check_comparability" 0 n_ n_ n_ n_ none n_ n_ 0), a_ []⟩),
  (525, ⟨(.type "code"), none, (.fields (a_ ([(s_ "check_comparability" 863), (s_ "check_comparability" 864), (s_ "/claim/cut.py" 865), (.int 389 0), (.int 3 0), (.int 0 0), (.int 0 0), (.int 3 0), (r_ 520), (.bool true), (.int 181 0), (r_ 521), n_, (r_ 522), (r_ 523), (r_ 524), (.int 869 0), (.int 389 0), (s_ "/claim/cut.py" 870)]))), a_ []⟩),
  (526, ⟨(.type "function"), none, (f_ (top 82) "check_comparability" "check_comparability" 3 n_ n_ n_ (s_ "trellis.check_classes" 777) none (r_ 525) n_ 0), a_ []⟩),
  (527, ⟨(.type "tuple"), none, (.seq (a_ []) 0), a_ []⟩),
  (528, ⟨n_, none, (.fields (a_ [])), a_ []⟩),
  (529, ⟨(.type "tuple"), none, (.seq (a_ ([(s_ "graph" 875), (s_ "answer" 876), (s_ "data" 877), (s_ "n" 878), (s_ "one" 879), (s_ "two" 880), (s_ "u" 881), (s_ "v" 882), (s_ "turned" 883)])) 0), a_ []⟩),
  (530, ⟨(.type "tuple"), none, (.seq (a_ []) 0), a_ []⟩),
  (531, ⟨n_, none, (f_ (top 83) "check_permutation" "check_permutation" 0 n_ n_ n_ n_ none n_ n_ 0), a_ []⟩),
  (532, ⟨(.type "code"), none, (.fields (a_ ([(s_ "check_permutation" 872), (s_ "check_permutation" 873), (s_ "/claim/cut.py" 874), (.int 393 0), (.int 3 0), (.int 0 0), (.int 0 0), (.int 3 0), (r_ 527), (.bool true), (.int 181 0), (r_ 528), n_, (r_ 529), (r_ 530), (r_ 531), (.int 884 0), (.int 393 0), (s_ "/claim/cut.py" 885)]))), a_ []⟩),
  (533, ⟨(.type "function"), none, (f_ (top 83) "check_permutation" "check_permutation" 3 n_ n_ n_ (s_ "trellis.check_classes" 777) none (r_ 532) n_ 0), a_ []⟩),
  (534, ⟨(.type "tuple"), none, (.seq (a_ []) 0), a_ []⟩),
  (535, ⟨n_, none, (.fields (a_ [])), a_ []⟩),
  (536, ⟨(.type "tuple"), none, (.seq (a_ ([(s_ "tree" 890), (s_ "found" 891), (s_ "part" 892), (s_ "leaves" 893)])) 0), a_ []⟩),
  (537, ⟨(.type "tuple"), none, (.seq (a_ []) 0), a_ []⟩),
  (538, ⟨n_, none, (f_ (top 84) "leaves_of" "leaves_of" 0 n_ n_ n_ n_ none n_ n_ 0), a_ []⟩),
  (539, ⟨(.type "code"), none, (.fields (a_ ([(s_ "leaves_of" 887), (s_ "leaves_of" 888), (s_ "/claim/cut.py" 889), (.int 410 0), (.int 1 0), (.int 0 0), (.int 0 0), (.int 3 0), (r_ 534), (.bool true), (.int 181 0), (r_ 535), n_, (r_ 536), (r_ 537), (r_ 538), (.int 894 0), (.int 410 0), (s_ "/claim/cut.py" 895)]))), a_ []⟩),
  (540, ⟨(.type "function"), none, (f_ (top 84) "leaves_of" "leaves_of" 3 n_ n_ n_ (s_ "trellis.check_classes" 777) none (r_ 539) n_ 0), a_ []⟩),
  (541, ⟨(.type "tuple"), none, (.seq (a_ []) 0), a_ []⟩),
  (542, ⟨n_, none, (.fields (a_ [])), a_ []⟩),
  (543, ⟨n_, none, (f_ (top 85) "joined_pairs" "joined_pairs" 0 n_ n_ n_ n_ none n_ n_ 0), a_ []⟩),
  (544, ⟨(.type "code"), none, (.fields (a_ ([(s_ "joined_pairs" 897), (s_ "joined_pairs" 898), (s_ "/claim/cut.py" 899), (.int 422 0), (.int 1 0), (.int 0 0), (.int 0 0), (.int 3 0), (r_ 541), (.bool true), (.int 181 0), (r_ 542), n_, n_, n_, (r_ 543), (.int 900 0), (.int 422 0), (s_ "/claim/cut.py" 901)]))), a_ []⟩),
  (545, ⟨(.type "function"), none, (f_ (top 85) "joined_pairs" "joined_pairs" 3 n_ n_ n_ (s_ "trellis.check_classes" 777) none (r_ 544) n_ 0), a_ []⟩),
  (546, ⟨(.type "tuple"), none, (.seq (a_ []) 0), a_ []⟩),
  (547, ⟨n_, none, (.fields (a_ [])), a_ []⟩),
  (548, ⟨(.type "tuple"), none, (.seq (a_ ([(s_ "graph" 906), (s_ "answer" 907), (s_ "data" 908), (s_ "leaves" 909)])) 0), a_ []⟩)]
def nw2_4 (w : World) : List (Nat × Obj) := [
  (549, ⟨(.type "tuple"), none, (.seq (a_ []) 0), a_ []⟩),
  (550, ⟨n_, none, (f_ (top 86) "check_cograph" "check_cograph" 0 n_ n_ n_ n_ none n_ n_ 0), a_ []⟩),
  (551, ⟨(.type "code"), none, (.fields (a_ ([(s_ "check_cograph" 903), (s_ "check_cograph" 904), (s_ "/claim/cut.py" 905), (.int 434 0), (.int 3 0), (.int 0 0), (.int 0 0), (.int 3 0), (r_ 546), (.bool true), (.int 181 0), (r_ 547), n_, (r_ 548), (r_ 549), (r_ 550), (.int 910 0), (.int 434 0), (s_ "/claim/cut.py" 911)]))), a_ []⟩),
  (552, ⟨(.type "function"), none, (f_ (top 86) "check_cograph" "check_cograph" 3 n_ n_ n_ (s_ "trellis.check_classes" 777) none (r_ 551) n_ 0), a_ []⟩),
  (553, ⟨(.type "tuple"), none, (.seq (a_ []) 0), a_ []⟩),
  (554, ⟨n_, none, (.fields (a_ [])), a_ []⟩),
  (555, ⟨n_, none, (f_ (top 88) "find_hole" "find_hole" 0 n_ n_ n_ n_ none n_ n_ 0), a_ []⟩),
  (556, ⟨(.type "code"), none, (.fields (a_ ([(s_ "find_hole" 915), (s_ "find_hole" 916), (s_ "/claim/cut.py" 917), (.int 442 0), (.int 1 0), (.int 0 0), (.int 0 0), (.int 3 0), (r_ 553), (.bool true), (.int 181 0), (r_ 554), n_, n_, n_, (r_ 555), (.int 918 0), (.int 442 0), (s_ "/claim/cut.py" 919)]))), a_ []⟩),
  (557, ⟨(.type "function"), none, (f_ (top 88) "find_hole" "find_hole" 3 n_ n_ n_ (s_ "trellis.classes" 913) none (r_ 556) n_ 0), a_ []⟩),
  (558, ⟨(.type "tuple"), none, (.seq (a_ []) 0), a_ []⟩),
  (559, ⟨n_, none, (.fields (a_ [])), a_ []⟩),
  (560, ⟨n_, none, (f_ (top 89) "clique_order" "clique_order" 0 n_ n_ n_ n_ none n_ n_ 0), a_ []⟩),
  (561, ⟨(.type "code"), none, (.fields (a_ ([(s_ "clique_order" 921), (s_ "clique_order" 922), (s_ "/claim/cut.py" 923), (.int 453 0), (.int 1 0), (.int 0 0), (.int 0 0), (.int 3 0), (r_ 558), (.bool true), (.int 181 0), (r_ 559), n_, n_, n_, (r_ 560), (.int 924 0), (.int 453 0), (s_ "/claim/cut.py" 925)]))), a_ []⟩),
  (562, ⟨(.type "function"), none, (f_ (top 89) "clique_order" "clique_order" 3 n_ n_ n_ (s_ "trellis.classes" 913) none (r_ 561) n_ 0), a_ []⟩),
  (563, ⟨(.type "tuple"), none, (.seq (a_ []) 0), a_ []⟩),
  (564, ⟨n_, none, (.fields (a_ [])), a_ []⟩),
  (565, ⟨(.type "tuple"), none, (.seq (a_ ([(s_ "graph" 930), (s_ "hole" 931)])) 0), a_ []⟩),
  (566, ⟨(.type "tuple"), none, (.seq (a_ []) 0), a_ []⟩),
  (567, ⟨n_, none, (f_ (top 90) "decide_chordal" "decide_chordal" 0 n_ n_ n_ n_ none n_ n_ 0), a_ []⟩),
  (568, ⟨(.type "code"), none, (.fields (a_ ([(s_ "decide_chordal" 927), (s_ "decide_chordal" 928), (s_ "/claim/cut.py" 929), (.int 463 0), (.int 1 0), (.int 0 0), (.int 0 0), (.int 3 0), (r_ 563), (.bool true), (.int 181 0), (r_ 564), n_, (r_ 565), (r_ 566), (r_ 567), (.int 932 0), (.int 463 0), (s_ "/claim/cut.py" 933)]))), a_ []⟩),
  (569, ⟨(.type "function"), none, (f_ (top 90) "decide_chordal" "decide_chordal" 3 n_ n_ n_ (s_ "trellis.classes" 913) none (r_ 568) n_ 0), a_ []⟩),
  (570, ⟨(.type "tuple"), none, (.seq (a_ []) 0), a_ []⟩),
  (571, ⟨n_, none, (.fields (a_ [])), a_ []⟩),
  (572, ⟨n_, none, (f_ (top 91) "largest_cliques" "largest_cliques" 0 n_ n_ n_ n_ none n_ n_ 0), a_ []⟩),
  (573, ⟨(.type "code"), none, (.fields (a_ ([(s_ "largest_cliques" 935), (s_ "largest_cliques" 936), (s_ "/claim/cut.py" 937), (.int 466 0), (.int 2 0), (.int 0 0), (.int 0 0), (.int 3 0), (r_ 570), (.bool true), (.int 181 0), (r_ 571), n_, n_, n_, (r_ 572), (.int 938 0), (.int 466 0), (s_ "/claim/cut.py" 939)]))), a_ []⟩)]
def nw2_5 (w : World) : List (Nat × Obj) := [
  (574, ⟨(.type "function"), none, (f_ (top 91) "largest_cliques" "largest_cliques" 3 n_ n_ n_ (s_ "trellis.classes" 913) none (r_ 573) n_ 0), a_ []⟩),
  (575, ⟨(.type "tuple"), none, (.seq (a_ []) 0), a_ []⟩),
  (576, ⟨n_, none, (.fields (a_ [])), a_ []⟩),
  (577, ⟨n_, none, (f_ (top 92) "are_together" "are_together" 0 n_ n_ n_ n_ none n_ n_ 0), a_ []⟩),
  (578, ⟨(.type "code"), none, (.fields (a_ ([(s_ "are_together" 941), (s_ "are_together" 942), (s_ "/claim/cut.py" 943), (.int 471 0), (.int 2 0), (.int 0 0), (.int 0 0), (.int 3 0), (r_ 575), (.bool true), (.int 181 0), (r_ 576), n_, n_, n_, (r_ 577), (.int 944 0), (.int 471 0), (s_ "/claim/cut.py" 945)]))), a_ []⟩),
  (579, ⟨(.type "function"), none, (f_ (top 92) "are_together" "are_together" 3 n_ n_ n_ (s_ "trellis.classes" 913) none (r_ 578) n_ 0), a_ []⟩),
  (580, ⟨(.type "tuple"), none, (.seq (a_ []) 0), a_ []⟩),
  (581, ⟨n_, none, (.fields (a_ [])), a_ []⟩),
  (582, ⟨(.type "tuple"), none, (.seq (a_ ([(s_ "cliques" 950), (s_ "row" 951), (s_ "n" 952), (s_ "k" 953), (s_ "clique" 954), (s_ "found" 955)])) 0), a_ []⟩),
  (583, ⟨(.type "tuple"), none, (.seq (a_ []) 0), a_ []⟩),
  (584, ⟨n_, none, (f_ (top 93) "clique_row" "clique_row" 0 n_ n_ n_ n_ none n_ n_ 0), a_ []⟩),
  (585, ⟨(.type "code"), none, (.fields (a_ ([(s_ "clique_row" 947), (s_ "clique_row" 948), (s_ "/claim/cut.py" 949), (.int 477 0), (.int 3 0), (.int 0 0), (.int 0 0), (.int 3 0), (r_ 580), (.bool true), (.int 181 0), (r_ 581), n_, (r_ 582), (r_ 583), (r_ 584), (.int 956 0), (.int 477 0), (s_ "/claim/cut.py" 957)]))), a_ []⟩),
  (586, ⟨(.type "function"), none, (f_ (top 93) "clique_row" "clique_row" 3 n_ n_ n_ (s_ "trellis.classes" 913) none (r_ 585) n_ 0), a_ []⟩),
  (587, ⟨(.type "tuple"), none, (.seq (a_ []) 0), a_ []⟩),
  (588, ⟨n_, none, (.fields (a_ [])), a_ []⟩),
  (589, ⟨n_, none, (f_ (top 94) "may_go_on" "may_go_on" 0 n_ n_ n_ n_ none n_ n_ 0), a_ []⟩),
  (590, ⟨(.type "code"), none, (.fields (a_ ([(s_ "may_go_on" 959), (s_ "may_go_on" 960), (s_ "/claim/cut.py" 961), (.int 487 0), (.int 3 0), (.int 0 0), (.int 0 0), (.int 3 0), (r_ 587), (.bool true), (.int 181 0), (r_ 588), n_, n_, n_, (r_ 589), (.int 962 0), (.int 487 0), (s_ "/claim/cut.py" 963)]))), a_ []⟩),
  (591, ⟨(.type "function"), none, (f_ (top 94) "may_go_on" "may_go_on" 3 n_ n_ n_ (s_ "trellis.classes" 913) none (r_ 590) n_ 0), a_ []⟩),
  (592, ⟨(.type "tuple"), none, (.seq (a_ []) 0), a_ []⟩),
  (593, ⟨n_, none, (.fields (a_ [])), a_ []⟩),
  (594, ⟨(.type "tuple"), none, (.seq (a_ ([(s_ "graph" 968), (s_ "n" 969), (s_ "a" 970), (s_ "b" 971), (s_ "c" 972), (s_ "paths" 973), (s_ "u" 974), (s_ "v" 975), (s_ "far" 976), (s_ "avoided" 977)])) 0), a_ []⟩),
  (595, ⟨(.type "tuple"), none, (.seq (a_ []) 0), a_ []⟩),
  (596, ⟨n_, none, (f_ (top 95) "asteroid" "asteroid" 0 n_ n_ n_ n_ none n_ n_ 0), a_ []⟩),
  (597, ⟨(.type "code"), none, (.fields (a_ ([(s_ "asteroid" 965), (s_ "asteroid" 966), (s_ "/claim/cut.py" 967), (.int 495 0), (.int 1 0), (.int 0 0), (.int 0 0), (.int 3 0), (r_ 592), (.bool true), (.int 181 0), (r_ 593), n_, (r_ 594), (r_ 595), (r_ 596), (.int 978 0), (.int 495 0), (s_ "/claim/cut.py" 979)]))), a_ []⟩),
  (598, ⟨(.type "function"), none, (f_ (top 95) "asteroid" "asteroid" 3 n_ n_ n_ (s_ "trellis.classes" 913) none (r_ 597) n_ 0), a_ []⟩)]
def nw2_6 (w : World) : List (Nat × Obj) := [
  (599, ⟨(.type "tuple"), none, (.seq (a_ []) 0), a_ []⟩),
  (600, ⟨n_, none, (.fields (a_ [])), a_ []⟩),
  (601, ⟨n_, none, (f_ (top 96) "decide_interval" "decide_interval" 0 n_ n_ n_ n_ none n_ n_ 0), a_ []⟩),
  (602, ⟨(.type "code"), none, (.fields (a_ ([(s_ "decide_interval" 981), (s_ "decide_interval" 982), (s_ "/claim/cut.py" 983), (.int 507 0), (.int 1 0), (.int 0 0), (.int 0 0), (.int 3 0), (r_ 599), (.bool true), (.int 181 0), (r_ 600), n_, n_, n_, (r_ 601), (.int 984 0), (.int 507 0), (s_ "/claim/cut.py" 985)]))), a_ []⟩),
  (603, ⟨(.type "function"), none, (f_ (top 96) "decide_interval" "decide_interval" 3 n_ n_ n_ (s_ "trellis.classes" 913) none (r_ 602) n_ 0), a_ []⟩),
  (604, ⟨(.type "tuple"), none, (.seq (a_ []) 0), a_ []⟩),
  (605, ⟨n_, none, (.fields (a_ [])), a_ []⟩),
  (606, ⟨n_, none, (f_ (top 97) "all_arrows" "all_arrows" 0 n_ n_ n_ n_ none n_ n_ 0), a_ []⟩),
  (607, ⟨(.type "code"), none, (.fields (a_ ([(s_ "all_arrows" 987), (s_ "all_arrows" 988), (s_ "/claim/cut.py" 989), (.int 517 0), (.int 1 0), (.int 0 0), (.int 0 0), (.int 3 0), (r_ 604), (.bool true), (.int 181 0), (r_ 605), n_, n_, n_, (r_ 606), (.int 990 0), (.int 517 0), (s_ "/claim/cut.py" 991)]))), a_ []⟩),
  (608, ⟨(.type "function"), none, (f_ (top 97) "all_arrows" "all_arrows" 3 n_ n_ n_ (s_ "trellis.classes" 913) none (r_ 607) n_ 0), a_ []⟩),
  (609, ⟨(.type "tuple"), none, (.seq (a_ []) 0), a_ []⟩),
  (610, ⟨n_, none, (.fields (a_ [])), a_ []⟩),
  (611, ⟨n_, none, (f_ (top 98) "forced_arrows" "forced_arrows" 0 n_ n_ n_ n_ none n_ n_ 0), a_ []⟩),
  (612, ⟨(.type "code"), none, (.fields (a_ ([(s_ "forced_arrows" 993), (s_ "forced_arrows" 994), (s_ "/claim/cut.py" 995), (.int 519 0), (.int 2 0), (.int 0 0), (.int 0 0), (.int 3 0), (r_ 609), (.bool true), (.int 181 0), (r_ 610), n_, n_, n_, (r_ 611), (.int 996 0), (.int 519 0), (s_ "/claim/cut.py" 997)]))), a_ []⟩),
  (613, ⟨(.type "function"), none, (f_ (top 98) "forced_arrows" "forced_arrows" 3 n_ n_ n_ (s_ "trellis.classes" 913) none (r_ 612) n_ 0), a_ []⟩),
  (614, ⟨(.type "tuple"), none, (.seq (a_ []) 0), a_ []⟩),
  (615, ⟨n_, none, (.fields (a_ [])), a_ []⟩),
  (616, ⟨(.type "tuple"), none, (.seq (a_ ([(s_ "graph" 1002), (s_ "arrow" 1003), (s_ "before" 1004), (s_ "waiting" 1005), (s_ "one" 1006), (s_ "other" 1007)])) 0), a_ []⟩),
  (617, ⟨(.type "tuple"), none, (.seq (a_ []) 0), a_ []⟩),
  (618, ⟨n_, none, (f_ (top 99) "forcing_ways" "forcing_ways" 0 n_ n_ n_ n_ none n_ n_ 0), a_ []⟩),
  (619, ⟨(.type "code"), none, (.fields (a_ ([(s_ "forcing_ways" 999), (s_ "forcing_ways" 1000), (s_ "/claim/cut.py" 1001), (.int 521 0), (.int 2 0), (.int 0 0), (.int 0 0), (.int 3 0), (r_ 614), (.bool true), (.int 181 0), (r_ 615), n_, (r_ 616), (r_ 617), (r_ 618), (.int 1008 0), (.int 521 0), (s_ "/claim/cut.py" 1009)]))), a_ []⟩),
  (620, ⟨(.type "function"), none, (f_ (top 99) "forcing_ways" "forcing_ways" 3 n_ n_ n_ (s_ "trellis.classes" 913) none (r_ 619) n_ 0), a_ []⟩),
  (621, ⟨(.type "tuple"), none, (.seq (a_ []) 0), a_ []⟩),
  (622, ⟨n_, none, (.fields (a_ [])), a_ []⟩),
  (623, ⟨n_, none, (f_ (top 100) "arrow_classes" "arrow_classes" 0 n_ n_ n_ n_ none n_ n_ 0), a_ []⟩)]
def nw2_7 (w : World) : List (Nat × Obj) := [
  (624, ⟨(.type "code"), none, (.fields (a_ ([(s_ "arrow_classes" 1011), (s_ "arrow_classes" 1012), (s_ "/claim/cut.py" 1013), (.int 531 0), (.int 1 0), (.int 0 0), (.int 0 0), (.int 3 0), (r_ 621), (.bool true), (.int 181 0), (r_ 622), n_, n_, n_, (r_ 623), (.int 1014 0), (.int 531 0), (s_ "/claim/cut.py" 1015)]))), a_ []⟩),
  (625, ⟨(.type "function"), none, (f_ (top 100) "arrow_classes" "arrow_classes" 3 n_ n_ n_ (s_ "trellis.classes" 913) none (r_ 624) n_ 0), a_ []⟩),
  (626, ⟨(.type "tuple"), none, (.seq (a_ []) 0), a_ []⟩),
  (627, ⟨n_, none, (.fields (a_ [])), a_ []⟩),
  (628, ⟨(.type "tuple"), none, (.seq (a_ ([(s_ "graph" 1020), (s_ "seen" 1021), (s_ "u" 1022), (s_ "v" 1023), (s_ "before" 1024), (s_ "chain" 1025)])) 0), a_ []⟩),
  (629, ⟨(.type "tuple"), none, (.seq (a_ []) 0), a_ []⟩),
  (630, ⟨n_, none, (f_ (top 101) "find_chain" "find_chain" 0 n_ n_ n_ n_ none n_ n_ 0), a_ []⟩),
  (631, ⟨(.type "code"), none, (.fields (a_ ([(s_ "find_chain" 1017), (s_ "find_chain" 1018), (s_ "/claim/cut.py" 1019), (.int 537 0), (.int 1 0), (.int 0 0), (.int 0 0), (.int 3 0), (r_ 626), (.bool true), (.int 181 0), (r_ 627), n_, (r_ 628), (r_ 629), (r_ 630), (.int 1026 0), (.int 537 0), (s_ "/claim/cut.py" 1027)]))), a_ []⟩),
  (632, ⟨(.type "function"), none, (f_ (top 101) "find_chain" "find_chain" 3 n_ n_ n_ (s_ "trellis.classes" 913) none (r_ 631) n_ 0), a_ []⟩),
  (633, ⟨(.type "tuple"), none, (.seq (a_ []) 0), a_ []⟩),
  (634, ⟨n_, none, (.fields (a_ [])), a_ []⟩),
  (635, ⟨n_, none, (f_ (top 102) "transitive_direction" "transitive_direction" 0 n_ n_ n_ n_ none n_ n_ 0), a_ []⟩),
  (636, ⟨(.type "code"), none, (.fields (a_ ([(s_ "transitive_direction" 1029), (s_ "transitive_direction" 1030), (s_ "/claim/cut.py" 1031), (.int 549 0), (.int 1 0), (.int 0 0), (.int 0 0), (.int 3 0), (r_ 633), (.bool true), (.int 181 0), (r_ 634), n_, n_, n_, (r_ 635), (.int 1032 0), (.int 549 0), (s_ "/claim/cut.py" 1033)]))), a_ []⟩),
  (637, ⟨(.type "function"), none, (f_ (top 102) "transitive_direction" "transitive_direction" 3 n_ n_ n_ (s_ "trellis.classes" 913) none (r_ 636) n_ 0), a_ []⟩),
  (638, ⟨(.type "tuple"), none, (.seq (a_ []) 0), a_ []⟩),
  (639, ⟨n_, none, (.fields (a_ [])), a_ []⟩),
  (640, ⟨n_, none, (f_ (top 103) "decide_comparability" "decide_comparability" 0 n_ n_ n_ n_ none n_ n_ 0), a_ []⟩),
  (641, ⟨(.type "code"), none, (.fields (a_ ([(s_ "decide_comparability" 1035), (s_ "decide_comparability" 1036), (s_ "/claim/cut.py" 1037), (.int 557 0), (.int 1 0), (.int 0 0), (.int 0 0), (.int 3 0), (r_ 638), (.bool true), (.int 181 0), (r_ 639), n_, n_, n_, (r_ 640), (.int 1038 0), (.int 557 0), (s_ "/claim/cut.py" 1039)]))), a_ []⟩),
  (642, ⟨(.type "function"), none, (f_ (top 103) "decide_comparability" "decide_comparability" 3 n_ n_ n_ (s_ "trellis.classes" 913) none (r_ 641) n_ 0), a_ []⟩),
  (643, ⟨(.type "tuple"), none, (.seq (a_ []) 0), a_ []⟩),
  (644, ⟨n_, none, (.fields (a_ [])), a_ []⟩),
  (645, ⟨n_, none, (f_ (top 104) "row_of" "row_of" 0 n_ n_ n_ n_ none n_ n_ 0), a_ []⟩),
  (646, ⟨(.type "code"), none, (.fields (a_ ([(s_ "row_of" 1041), (s_ "row_of" 1042), (s_ "/claim/cut.py" 1043), (.int 563 0), (.int 2 0), (.int 0 0), (.int 0 0), (.int 3 0), (r_ 643), (.bool true), (.int 181 0), (r_ 644), n_, n_, n_, (r_ 645), (.int 1044 0), (.int 563 0), (s_ "/claim/cut.py" 1045)]))), a_ []⟩),
  (647, ⟨(.type "function"), none, (f_ (top 104) "row_of" "row_of" 3 n_ n_ n_ (s_ "trellis.classes" 913) none (r_ 646) n_ 0), a_ []⟩),
  (648, ⟨(.type "tuple"), none, (.seq (a_ []) 0), a_ []⟩)]
def nw2_8 (w : World) : List (Nat × Obj) := [
  (649, ⟨n_, none, (.fields (a_ [])), a_ []⟩),
  (650, ⟨n_, none, (f_ (top 105) "decide_permutation" "decide_permutation" 0 n_ n_ n_ n_ none n_ n_ 0), a_ []⟩),
  (651, ⟨(.type "code"), none, (.fields (a_ ([(s_ "decide_permutation" 1047), (s_ "decide_permutation" 1048), (s_ "/claim/cut.py" 1049), (.int 566 0), (.int 1 0), (.int 0 0), (.int 0 0), (.int 3 0), (r_ 648), (.bool true), (.int 181 0), (r_ 649), n_, n_, n_, (r_ 650), (.int 1050 0), (.int 566 0), (s_ "/claim/cut.py" 1051)]))), a_ []⟩),
  (652, ⟨(.type "function"), none, (f_ (top 105) "decide_permutation" "decide_permutation" 3 n_ n_ n_ (s_ "trellis.classes" 913) none (r_ 651) n_ 0), a_ []⟩),
  (653, ⟨(.type "tuple"), none, (.seq (a_ []) 0), a_ []⟩),
  (654, ⟨n_, none, (.fields (a_ [])), a_ []⟩),
  (655, ⟨(.type "tuple"), none, (.seq (a_ ([(s_ "graph" 1058), (s_ "v" 1059), (s_ "before" 1060), (s_ "waiting" 1061), (s_ "u" 1062), (s_ "w" 1063)])) 0), a_ []⟩),
  (656, ⟨(.type "tuple"), none, (.seq (a_ []) 0), a_ []⟩),
  (657, ⟨n_, none, (f_ (top 107) "search_tree" "search_tree" 0 n_ n_ n_ n_ none n_ n_ 0), a_ []⟩),
  (658, ⟨(.type "code"), none, (.fields (a_ ([(s_ "search_tree" 1055), (s_ "search_tree" 1056), (s_ "/claim/cut.py" 1057), (.int 577 0), (.int 2 0), (.int 0 0), (.int 0 0), (.int 3 0), (r_ 653), (.bool true), (.int 181 0), (r_ 654), n_, (r_ 655), (r_ 656), (r_ 657), (.int 1064 0), (.int 577 0), (s_ "/claim/cut.py" 1065)]))), a_ []⟩),
  (659, ⟨(.type "function"), none, (f_ (top 107) "search_tree" "search_tree" 3 n_ n_ n_ (s_ "trellis.decide_walks" 1053) none (r_ 658) n_ 0), a_ []⟩),
  (660, ⟨(.type "tuple"), none, (.seq (a_ []) 0), a_ []⟩),
  (661, ⟨n_, none, (.fields (a_ [])), a_ []⟩),
  (662, ⟨n_, none, (f_ (top 108) "decide_connected" "decide_connected" 0 n_ n_ n_ n_ none n_ n_ 0), a_ []⟩),
  (663, ⟨(.type "code"), none, (.fields (a_ ([(s_ "decide_connected" 1067), (s_ "decide_connected" 1068), (s_ "/claim/cut.py" 1069), (.int 587 0), (.int 1 0), (.int 0 0), (.int 0 0), (.int 3 0), (r_ 660), (.bool true), (.int 181 0), (r_ 661), n_, n_, n_, (r_ 662), (.int 1070 0), (.int 587 0), (s_ "/claim/cut.py" 1071)]))), a_ []⟩),
  (664, ⟨(.type "function"), none, (f_ (top 108) "decide_connected" "decide_connected" 3 n_ n_ n_ (s_ "trellis.decide_walks" 1053) none (r_ 663) n_ 0), a_ []⟩),
  (665, ⟨(.type "tuple"), none, (.seq (a_ []) 0), a_ []⟩),
  (666, ⟨n_, none, (.fields (a_ [])), a_ []⟩),
  (667, ⟨(.type "tuple"), none, (.seq (a_ ([(s_ "before" 1076), (s_ "v" 1077), (s_ "way" 1078)])) 0), a_ []⟩),
  (668, ⟨(.type "tuple"), none, (.seq (a_ []) 0), a_ []⟩),
  (669, ⟨n_, none, (f_ (top 109) "way_up" "way_up" 0 n_ n_ n_ n_ none n_ n_ 0), a_ []⟩),
  (670, ⟨(.type "code"), none, (.fields (a_ ([(s_ "way_up" 1073), (s_ "way_up" 1074), (s_ "/claim/cut.py" 1075), (.int 592 0), (.int 2 0), (.int 0 0), (.int 0 0), (.int 3 0), (r_ 665), (.bool true), (.int 181 0), (r_ 666), n_, (r_ 667), (r_ 668), (r_ 669), (.int 1079 0), (.int 592 0), (s_ "/claim/cut.py" 1080)]))), a_ []⟩),
  (671, ⟨(.type "function"), none, (f_ (top 109) "way_up" "way_up" 3 n_ n_ n_ (s_ "trellis.decide_walks" 1053) none (r_ 670) n_ 0), a_ []⟩),
  (672, ⟨(.type "tuple"), none, (.seq (a_ []) 0), a_ []⟩),
  (673, ⟨n_, none, (.fields (a_ [])), a_ []⟩)]
def nw2_9 (w : World) : List (Nat × Obj) := [
  (674, ⟨n_, none, (f_ (top 110) "ring" "ring" 0 n_ n_ n_ n_ none n_ n_ 0), a_ []⟩),
  (675, ⟨(.type "code"), none, (.fields (a_ ([(s_ "ring" 1082), (s_ "ring" 1083), (s_ "/claim/cut.py" 1084), (.int 597 0), (.int 3 0), (.int 0 0), (.int 0 0), (.int 3 0), (r_ 672), (.bool true), (.int 181 0), (r_ 673), n_, n_, n_, (r_ 674), (.int 1085 0), (.int 597 0), (s_ "/claim/cut.py" 1086)]))), a_ []⟩),
  (676, ⟨(.type "function"), none, (f_ (top 110) "ring" "ring" 3 n_ n_ n_ (s_ "trellis.decide_walks" 1053) none (r_ 675) n_ 0), a_ []⟩),
  (677, ⟨(.type "tuple"), none, (.seq (a_ []) 0), a_ []⟩),
  (678, ⟨n_, none, (.fields (a_ [])), a_ []⟩),
  (679, ⟨n_, none, (f_ (top 111) "decide_bipartite" "decide_bipartite" 0 n_ n_ n_ n_ none n_ n_ 0), a_ []⟩),
  (680, ⟨(.type "code"), none, (.fields (a_ ([(s_ "decide_bipartite" 1088), (s_ "decide_bipartite" 1089), (s_ "/claim/cut.py" 1090), (.int 603 0), (.int 1 0), (.int 0 0), (.int 0 0), (.int 3 0), (r_ 677), (.bool true), (.int 181 0), (r_ 678), n_, n_, n_, (r_ 679), (.int 1091 0), (.int 603 0), (s_ "/claim/cut.py" 1092)]))), a_ []⟩),
  (681, ⟨(.type "function"), none, (f_ (top 111) "decide_bipartite" "decide_bipartite" 3 n_ n_ n_ (s_ "trellis.decide_walks" 1053) none (r_ 680) n_ 0), a_ []⟩),
  (682, ⟨(.type "tuple"), none, (.seq (a_ []) 0), a_ []⟩),
  (683, ⟨n_, none, (.fields (a_ [])), a_ []⟩),
  (684, ⟨n_, none, (f_ (top 112) "stripped" "stripped" 0 n_ n_ n_ n_ none n_ n_ 0), a_ []⟩),
  (685, ⟨(.type "code"), none, (.fields (a_ ([(s_ "stripped" 1094), (s_ "stripped" 1095), (s_ "/claim/cut.py" 1096), (.int 613 0), (.int 2 0), (.int 0 0), (.int 0 0), (.int 3 0), (r_ 682), (.bool true), (.int 181 0), (r_ 683), n_, n_, n_, (r_ 684), (.int 1097 0), (.int 613 0), (s_ "/claim/cut.py" 1098)]))), a_ []⟩),
  (686, ⟨(.type "function"), none, (f_ (top 112) "stripped" "stripped" 3 n_ n_ n_ (s_ "trellis.decide_walks" 1053) none (r_ 685) n_ 0), a_ []⟩),
  (687, ⟨(.type "tuple"), none, (.seq (a_ []) 0), a_ []⟩),
  (688, ⟨n_, none, (.fields (a_ [])), a_ []⟩),
  (689, ⟨(.type "tuple"), none, (.seq (a_ ([(s_ "graph" 1103), (s_ "order" 1104), (s_ "left" 1105)])) 0), a_ []⟩),
  (690, ⟨(.type "tuple"), none, (.seq (a_ []) 0), a_ []⟩),
  (691, ⟨n_, none, (f_ (top 113) "decide_forest" "decide_forest" 0 n_ n_ n_ n_ none n_ n_ 0), a_ []⟩),
  (692, ⟨(.type "code"), none, (.fields (a_ ([(s_ "decide_forest" 1100), (s_ "decide_forest" 1101), (s_ "/claim/cut.py" 1102), (.int 622 0), (.int 1 0), (.int 0 0), (.int 0 0), (.int 3 0), (r_ 687), (.bool true), (.int 181 0), (r_ 688), n_, (r_ 689), (r_ 690), (r_ 691), (.int 1106 0), (.int 622 0), (s_ "/claim/cut.py" 1107)]))), a_ []⟩),
  (693, ⟨(.type "function"), none, (f_ (top 113) "decide_forest" "decide_forest" 3 n_ n_ n_ (s_ "trellis.decide_walks" 1053) none (r_ 692) n_ 0), a_ []⟩),
  (694, ⟨(.type "tuple"), none, (.seq (a_ []) 0), a_ []⟩),
  (695, ⟨n_, none, (.fields (a_ [])), a_ []⟩),
  (696, ⟨n_, none, (f_ (top 114) "cut_of" "cut_of" 0 n_ n_ n_ n_ none n_ n_ 0), a_ []⟩),
  (697, ⟨(.type "code"), none, (.fields (a_ ([(s_ "cut_of" 1109), (s_ "cut_of" 1110), (s_ "/claim/cut.py" 1111), (.int 625 0), (.int 1 0), (.int 0 0), (.int 0 0), (.int 3 0), (r_ 694), (.bool true), (.int 181 0), (r_ 695), n_, n_, n_, (r_ 696), (.int 1112 0), (.int 625 0), (s_ "/claim/cut.py" 1113)]))), a_ []⟩),
  (698, ⟨(.type "function"), none, (f_ (top 114) "cut_of" "cut_of" 3 n_ n_ n_ (s_ "trellis.decide_walks" 1053) none (r_ 697) n_ 0), a_ []⟩)]
def nw2_10 (w : World) : List (Nat × Obj) := [
  (699, ⟨(.type "tuple"), none, (.seq (a_ []) 0), a_ []⟩),
  (700, ⟨n_, none, (.fields (a_ [])), a_ []⟩),
  (701, ⟨n_, none, (f_ (top 115) "next_ear" "next_ear" 0 n_ n_ n_ n_ none n_ n_ 0), a_ []⟩),
  (702, ⟨(.type "code"), none, (.fields (a_ ([(s_ "next_ear" 1115), (s_ "next_ear" 1116), (s_ "/claim/cut.py" 1117), (.int 631 0), (.int 2 0), (.int 0 0), (.int 0 0), (.int 3 0), (r_ 699), (.bool true), (.int 181 0), (r_ 700), n_, n_, n_, (r_ 701), (.int 1118 0), (.int 631 0), (s_ "/claim/cut.py" 1119)]))), a_ []⟩),
  (703, ⟨(.type "function"), none, (f_ (top 115) "next_ear" "next_ear" 3 n_ n_ n_ (s_ "trellis.decide_walks" 1053) none (r_ 702) n_ 0), a_ []⟩),
  (704, ⟨(.type "tuple"), none, (.seq (a_ []) 0), a_ []⟩),
  (705, ⟨n_, none, (.fields (a_ [])), a_ []⟩),
  (706, ⟨(.type "tuple"), none, (.seq (a_ ([(s_ "graph" 1124), (s_ "cut" 1125), (s_ "ears" 1126), (s_ "known" 1127)])) 0), a_ []⟩),
  (707, ⟨(.type "tuple"), none, (.seq (a_ []) 0), a_ []⟩),
  (708, ⟨n_, none, (f_ (top 116) "decide_block" "decide_block" 0 n_ n_ n_ n_ none n_ n_ 0), a_ []⟩),
  (709, ⟨(.type "code"), none, (.fields (a_ ([(s_ "decide_block" 1121), (s_ "decide_block" 1122), (s_ "/claim/cut.py" 1123), (.int 640 0), (.int 1 0), (.int 0 0), (.int 0 0), (.int 3 0), (r_ 704), (.bool true), (.int 181 0), (r_ 705), n_, (r_ 706), (r_ 707), (r_ 708), (.int 1128 0), (.int 640 0), (s_ "/claim/cut.py" 1129)]))), a_ []⟩),
  (710, ⟨(.type "function"), none, (f_ (top 116) "decide_block" "decide_block" 3 n_ n_ n_ (s_ "trellis.decide_walks" 1053) none (r_ 709) n_ 0), a_ []⟩),
  (711, ⟨(.type "tuple"), none, (.seq (a_ []) 0), a_ []⟩),
  (712, ⟨(.type "builtin_function_or_method"), none, (.fields (a_ ([(.builtin "type.__prepare__"), (.type "type")]))), a_ []⟩),
  (713, ⟨(.type "dict"), none, (.dict (a_ ([e_ w "__module__" 1138 (s_ "trellis.decide_walks" 1053), e_ w "__qualname__" 1140 (s_ "PathSystem" 1139), e_ w "__firstlineno__" 1142 (.int 652 1141), e_ w "__init__" 1154 (r_ 724), e_ w "reached" 1168 (r_ 731), e_ w "grow" 1177 (r_ 738), e_ w "paths" 1190 (r_ 745), e_ w "cut" 1196 (r_ 750), e_ w "__static_attributes__" 1201 (r_ 751)])) 9), a_ []⟩),
  (714, ⟨(.type "tuple"), none, (.seq (a_ []) 0), a_ []⟩),
  (715, ⟨n_, none, (.fields (a_ ([(.int 654 0), (.int 4 0), (r_ 723), (.int 668 0), (.int 4 0), (r_ 730), (.int 680 0), (.int 4 0), (r_ 737), (.int 691 0), (.int 4 0), (r_ 744), (.int 704 0), (.int 4 0), (r_ 749)]))), a_ []⟩),
  (716, ⟨(.type "code"), none, (.fields (a_ ([(s_ "PathSystem" 1133), (s_ "PathSystem" 1134), (s_ "/claim/cut.py" 1135), (.int 652 0), (.int 0 0), (.int 0 0), (.int 0 0), (.int 0 0), (r_ 714), (.bool false), (.int 181 0), (r_ 715), n_, n_, n_, n_, (.int 1136 0), (.int 652 0), (s_ "/claim/cut.py" 1137)]))), a_ []⟩),
  (717, ⟨(.type "frame"), none, .plain, a_ ([some (r_ 716), some (r_ 3), some (r_ 713), none, some (s_ "trellis.decide_walks" 1053), none, some (r_ 0)])⟩),
  (718, ⟨(.type "tuple"), none, (.seq (a_ []) 0), a_ []⟩),
  (719, ⟨n_, none, (.fields (a_ [])), a_ []⟩),
  (720, ⟨(.type "tuple"), none, (.seq (a_ ([(s_ "self" 1146), (s_ "graph" 1147), (s_ "s" 1148), (s_ "t" 1149), (s_ "v" 1150), (s_ "u" 1151)])) 0), a_ []⟩),
  (721, ⟨(.type "tuple"), none, (.seq (a_ []) 0), a_ []⟩),
  (722, ⟨n_, none, (f_ (inClass (top 117) 0) "__init__" "PathSystem.__init__" 0 n_ n_ n_ n_ none n_ n_ 0), a_ []⟩),
  (723, ⟨(.type "code"), none, (.fields (a_ ([(s_ "__init__" 1143), (s_ "PathSystem.__init__" 1144), (s_ "/claim/cut.py" 1145), (.int 654 0), (.int 4 0), (.int 0 0), (.int 0 0), (.int 3 0), (r_ 718), (.bool true), (.int 181 0), (r_ 719), n_, (r_ 720), (r_ 721), (r_ 722), (.int 1152 0), (.int 654 0), (s_ "/claim/cut.py" 1153)]))), a_ []⟩)]
def nw2_11 (w : World) : List (Nat × Obj) := [
  (724, ⟨(.type "function"), none, (f_ (inClass (top 117) 0) "__init__" "PathSystem.__init__" 3 n_ n_ n_ (s_ "trellis.decide_walks" 1053) none (r_ 723) n_ 0), a_ []⟩),
  (725, ⟨(.type "tuple"), none, (.seq (a_ []) 0), a_ []⟩),
  (726, ⟨n_, none, (.fields (a_ [])), a_ []⟩),
  (727, ⟨(.type "tuple"), none, (.seq (a_ ([(s_ "self" 1158), (s_ "start" 1159), (s_ "before" 1160), (s_ "waiting" 1161), (s_ "x" 1162), (s_ "u" 1163), (s_ "v" 1164), (s_ "room" 1165)])) 0), a_ []⟩),
  (728, ⟨(.type "tuple"), none, (.seq (a_ []) 0), a_ []⟩),
  (729, ⟨n_, none, (f_ (inClass (top 117) 1) "reached" "PathSystem.reached" 0 n_ n_ n_ n_ none n_ n_ 0), a_ []⟩),
  (730, ⟨(.type "code"), none, (.fields (a_ ([(s_ "reached" 1155), (s_ "PathSystem.reached" 1156), (s_ "/claim/cut.py" 1157), (.int 668 0), (.int 1 0), (.int 0 0), (.int 0 0), (.int 3 0), (r_ 725), (.bool true), (.int 181 0), (r_ 726), n_, (r_ 727), (r_ 728), (r_ 729), (.int 1166 0), (.int 668 0), (s_ "/claim/cut.py" 1167)]))), a_ []⟩),
  (731, ⟨(.type "function"), none, (f_ (inClass (top 117) 1) "reached" "PathSystem.reached" 3 n_ n_ n_ (s_ "trellis.decide_walks" 1053) none (r_ 730) n_ 0), a_ []⟩),
  (732, ⟨(.type "tuple"), none, (.seq (a_ []) 0), a_ []⟩),
  (733, ⟨n_, none, (.fields (a_ [])), a_ []⟩),
  (734, ⟨(.type "tuple"), none, (.seq (a_ ([(s_ "self" 1172), (s_ "before" 1173), (s_ "x" 1174)])) 0), a_ []⟩),
  (735, ⟨(.type "tuple"), none, (.seq (a_ []) 0), a_ []⟩),
  (736, ⟨n_, none, (f_ (inClass (top 117) 2) "grow" "PathSystem.grow" 0 n_ n_ n_ n_ none n_ n_ 0), a_ []⟩),
  (737, ⟨(.type "code"), none, (.fields (a_ ([(s_ "grow" 1169), (s_ "PathSystem.grow" 1170), (s_ "/claim/cut.py" 1171), (.int 680 0), (.int 1 0), (.int 0 0), (.int 0 0), (.int 3 0), (r_ 732), (.bool true), (.int 181 0), (r_ 733), n_, (r_ 734), (r_ 735), (r_ 736), (.int 1175 0), (.int 680 0), (s_ "/claim/cut.py" 1176)]))), a_ []⟩),
  (738, ⟨(.type "function"), none, (f_ (inClass (top 117) 2) "grow" "PathSystem.grow" 3 n_ n_ n_ (s_ "trellis.decide_walks" 1053) none (r_ 737) n_ 0), a_ []⟩),
  (739, ⟨(.type "tuple"), none, (.seq (a_ []) 0), a_ []⟩),
  (740, ⟨n_, none, (.fields (a_ [])), a_ []⟩),
  (741, ⟨(.type "tuple"), none, (.seq (a_ ([(s_ "self" 1181), (s_ "used" 1182), (s_ "u" 1183), (s_ "v" 1184), (s_ "most" 1185), (s_ "found" 1186), (s_ "path" 1187)])) 0), a_ []⟩),
  (742, ⟨(.type "tuple"), none, (.seq (a_ []) 0), a_ []⟩),
  (743, ⟨n_, none, (f_ (inClass (top 117) 3) "paths" "PathSystem.paths" 0 n_ n_ n_ n_ none n_ n_ 0), a_ []⟩),
  (744, ⟨(.type "code"), none, (.fields (a_ ([(s_ "paths" 1178), (s_ "PathSystem.paths" 1179), (s_ "/claim/cut.py" 1180), (.int 691 0), (.int 1 0), (.int 0 0), (.int 0 0), (.int 3 0), (r_ 739), (.bool true), (.int 181 0), (r_ 740), n_, (r_ 741), (r_ 742), (r_ 743), (.int 1188 0), (.int 691 0), (s_ "/claim/cut.py" 1189)]))), a_ []⟩),
  (745, ⟨(.type "function"), none, (f_ (inClass (top 117) 3) "paths" "PathSystem.paths" 3 n_ n_ n_ (s_ "trellis.decide_walks" 1053) none (r_ 744) n_ 0), a_ []⟩),
  (746, ⟨(.type "tuple"), none, (.seq (a_ []) 0), a_ []⟩),
  (747, ⟨n_, none, (.fields (a_ [])), a_ []⟩),
  (748, ⟨n_, none, (f_ (inClass (top 117) 4) "cut" "PathSystem.cut" 0 n_ n_ n_ n_ none n_ n_ 0), a_ []⟩)]
def nw2_12 (w : World) : List (Nat × Obj) := [
  (749, ⟨(.type "code"), none, (.fields (a_ ([(s_ "cut" 1191), (s_ "PathSystem.cut" 1192), (s_ "/claim/cut.py" 1193), (.int 704 0), (.int 1 0), (.int 0 0), (.int 0 0), (.int 3 0), (r_ 746), (.bool true), (.int 181 0), (r_ 747), n_, n_, n_, (r_ 748), (.int 1194 0), (.int 704 0), (s_ "/claim/cut.py" 1195)]))), a_ []⟩),
  (750, ⟨(.type "function"), none, (f_ (inClass (top 117) 4) "cut" "PathSystem.cut" 3 n_ n_ n_ (s_ "trellis.decide_walks" 1053) none (r_ 749) n_ 0), a_ []⟩),
  (751, ⟨(.type "tuple"), none, (.seq (a_ ([(s_ "arcs" 1197), (s_ "room" 1198), (s_ "s" 1199), (s_ "t" 1200)])) 0), a_ []⟩),
  (752, ⟨(.type "dict"), none, (.dict (a_ ([e_ w "__module__" 1138 (s_ "trellis.decide_walks" 1053), e_ w "__firstlineno__" 1142 (.int 652 1141), e_ w "__init__" 1154 (r_ 724), e_ w "reached" 1168 (r_ 731), e_ w "grow" 1177 (r_ 738), e_ w "paths" 1190 (r_ 745), e_ w "cut" 1196 (r_ 750), e_ w "__static_attributes__" 1201 (r_ 751), e_ w "__dict__" 1203 (r_ 754), e_ w "__weakref__" 1205 (r_ 755), e_ w "__doc__" 1206 n_])) 4), a_ []⟩),
  (753, ⟨(.type "type"), none, (.cls ⟨(z "PathSystem"), ([(.type "object")]), ([(r_ 753), (.type "object")]), 752, (z "PathSystem"), true, [], [], false, none, false⟩), a_ ([none, none, some (s_ "PathSystem" 1131), some (s_ "PathSystem" 1139), some (.builtin "object.__new__"), some (.bool true)])⟩),
  (754, ⟨(.type "getset_descriptor"), none, (.fields (a_ ([(s_ "__dict__" 1202), (r_ 753), (.builtin "function.__dict__"), (.builtin "function.__dict__#set")]))), a_ []⟩),
  (755, ⟨(.type "getset_descriptor"), none, (.fields (a_ ([(s_ "__weakref__" 1204), (r_ 753), (.builtin "ExceptionGroup.__weakref__"), n_]))), a_ []⟩),
  (756, ⟨(.type "super"), none, (.fields (a_ ([(r_ 753), (r_ 753), (r_ 753)]))), a_ []⟩),
  (757, ⟨(.type "builtin_function_or_method"), none, (.fields (a_ ([(.builtin "object.__init_subclass__"), (r_ 753)]))), a_ []⟩),
  (758, ⟨(.type "tuple"), none, (.seq (a_ []) 0), a_ []⟩),
  (759, ⟨n_, none, (.fields (a_ [])), a_ []⟩),
  (760, ⟨(.type "tuple"), none, (.seq (a_ ([(s_ "graph" 1212), (s_ "s" 1213), (s_ "t" 1214), (s_ "k" 1215), (s_ "found" 1216), (s_ "system" 1217), (s_ "many" 1218)])) 0), a_ []⟩),
  (761, ⟨(.type "tuple"), none, (.seq (a_ []) 0), a_ []⟩),
  (762, ⟨n_, none, (f_ (top 118) "decide_linked" "decide_linked" 0 n_ n_ n_ n_ none n_ n_ 0), a_ []⟩),
  (763, ⟨(.type "code"), none, (.fields (a_ ([(s_ "decide_linked" 1209), (s_ "decide_linked" 1210), (s_ "/claim/cut.py" 1211), (.int 707 0), (.int 4 0), (.int 0 0), (.int 0 0), (.int 3 0), (r_ 758), (.bool true), (.int 181 0), (r_ 759), n_, (r_ 760), (r_ 761), (r_ 762), (.int 1219 0), (.int 707 0), (s_ "/claim/cut.py" 1220)]))), a_ []⟩),
  (764, ⟨(.type "function"), none, (f_ (top 118) "decide_linked" "decide_linked" 3 n_ n_ n_ (s_ "trellis.decide_walks" 1053) none (r_ 763) n_ 0), a_ []⟩),
  (765, ⟨(.type "tuple"), none, (.seq (a_ []) 0), a_ []⟩),
  (766, ⟨n_, none, (.fields (a_ [])), a_ []⟩),
  (767, ⟨(.type "tuple"), none, (.seq (a_ ([(s_ "rotation" 1227), (s_ "arrow" 1228), (s_ "u" 1229), (s_ "v" 1230), (s_ "item" 1231)])) 0), a_ []⟩),
  (768, ⟨(.type "tuple"), none, (.seq (a_ []) 0), a_ []⟩),
  (769, ⟨n_, none, (f_ (top 120) "next_arrow" "next_arrow" 0 n_ n_ n_ n_ none n_ n_ 0), a_ []⟩),
  (770, ⟨(.type "code"), none, (.fields (a_ ([(s_ "next_arrow" 1224), (s_ "next_arrow" 1225), (s_ "/claim/cut.py" 1226), (.int 717 0), (.int 2 0), (.int 0 0), (.int 0 0), (.int 3 0), (r_ 765), (.bool true), (.int 181 0), (r_ 766), n_, (r_ 767), (r_ 768), (r_ 769), (.int 1232 0), (.int 717 0), (s_ "/claim/cut.py" 1233)]))), a_ []⟩),
  (771, ⟨(.type "function"), none, (f_ (top 120) "next_arrow" "next_arrow" 3 n_ n_ n_ (s_ "trellis.drawings" 1222) none (r_ 770) n_ 0), a_ []⟩),
  (772, ⟨(.type "tuple"), none, (.seq (a_ []) 0), a_ []⟩),
  (773, ⟨n_, none, (.fields (a_ [])), a_ []⟩)]
def nw2_13 (w : World) : List (Nat × Obj) := [
  (774, ⟨n_, none, (f_ (top 121) "faces" "faces" 0 n_ n_ n_ n_ none n_ n_ 0), a_ []⟩),
  (775, ⟨(.type "code"), none, (.fields (a_ ([(s_ "faces" 1235), (s_ "faces" 1236), (s_ "/claim/cut.py" 1237), (.int 721 0), (.int 2 0), (.int 0 0), (.int 0 0), (.int 3 0), (r_ 772), (.bool true), (.int 181 0), (r_ 773), n_, n_, n_, (r_ 774), (.int 1238 0), (.int 721 0), (s_ "/claim/cut.py" 1239)]))), a_ []⟩),
  (776, ⟨(.type "function"), none, (f_ (top 121) "faces" "faces" 3 n_ n_ n_ (s_ "trellis.drawings" 1222) none (r_ 775) n_ 0), a_ []⟩),
  (777, ⟨(.type "tuple"), none, (.seq (a_ []) 0), a_ []⟩),
  (778, ⟨n_, none, (.fields (a_ [])), a_ []⟩),
  (779, ⟨n_, none, (f_ (top 122) "block_sets" "block_sets" 0 n_ n_ n_ n_ none n_ n_ 0), a_ []⟩),
  (780, ⟨(.type "code"), none, (.fields (a_ ([(s_ "block_sets" 1241), (s_ "block_sets" 1242), (s_ "/claim/cut.py" 1243), (.int 731 0), (.int 2 0), (.int 0 0), (.int 0 0), (.int 3 0), (r_ 777), (.bool true), (.int 181 0), (r_ 778), n_, n_, n_, (r_ 779), (.int 1244 0), (.int 731 0), (s_ "/claim/cut.py" 1245)]))), a_ []⟩),
  (781, ⟨(.type "function"), none, (f_ (top 122) "block_sets" "block_sets" 3 n_ n_ n_ (s_ "trellis.drawings" 1222) none (r_ 780) n_ 0), a_ []⟩),
  (782, ⟨(.type "tuple"), none, (.seq (a_ []) 0), a_ []⟩),
  (783, ⟨n_, none, (.fields (a_ [])), a_ []⟩),
  (784, ⟨(.type "tuple"), none, (.seq (a_ ([(s_ "graph" 1250), (s_ "found" 1251), (s_ "part" 1252)])) 0), a_ []⟩),
  (785, ⟨(.type "tuple"), none, (.seq (a_ []) 0), a_ []⟩),
  (786, ⟨n_, none, (f_ (top 123) "blocks" "blocks" 0 n_ n_ n_ n_ none n_ n_ 0), a_ []⟩),
  (787, ⟨(.type "code"), none, (.fields (a_ ([(s_ "blocks" 1247), (s_ "blocks" 1248), (s_ "/claim/cut.py" 1249), (.int 740 0), (.int 1 0), (.int 0 0), (.int 0 0), (.int 3 0), (r_ 782), (.bool true), (.int 181 0), (r_ 783), n_, (r_ 784), (r_ 785), (r_ 786), (.int 1253 0), (.int 740 0), (s_ "/claim/cut.py" 1254)]))), a_ []⟩),
  (788, ⟨(.type "function"), none, (f_ (top 123) "blocks" "blocks" 3 n_ n_ n_ (s_ "trellis.drawings" 1222) none (r_ 787) n_ 0), a_ []⟩),
  (789, ⟨(.type "tuple"), none, (.seq (a_ []) 0), a_ []⟩),
  (790, ⟨n_, none, (.fields (a_ [])), a_ []⟩),
  (791, ⟨n_, none, (f_ (top 125) "is_rotation" "is_rotation" 0 n_ n_ n_ n_ none n_ n_ 0), a_ []⟩),
  (792, ⟨(.type "code"), none, (.fields (a_ ([(s_ "is_rotation" 1258), (s_ "is_rotation" 1259), (s_ "/claim/cut.py" 1260), (.int 747 0), (.int 2 0), (.int 0 0), (.int 0 0), (.int 3 0), (r_ 789), (.bool true), (.int 181 0), (r_ 790), n_, n_, n_, (r_ 791), (.int 1261 0), (.int 747 0), (s_ "/claim/cut.py" 1262)]))), a_ []⟩),
  (793, ⟨(.type "function"), none, (f_ (top 125) "is_rotation" "is_rotation" 3 n_ n_ n_ (s_ "trellis.check_drawings" 1256) none (r_ 792) n_ 0), a_ []⟩),
  (794, ⟨(.type "tuple"), none, (.seq (a_ []) 0), a_ []⟩),
  (795, ⟨n_, none, (.fields (a_ [])), a_ []⟩),
  (796, ⟨n_, none, (f_ (top 126) "is_flat" "is_flat" 0 n_ n_ n_ n_ none n_ n_ 0), a_ []⟩),
  (797, ⟨(.type "code"), none, (.fields (a_ ([(s_ "is_flat" 1264), (s_ "is_flat" 1265), (s_ "/claim/cut.py" 1266), (.int 751 0), (.int 2 0), (.int 0 0), (.int 0 0), (.int 3 0), (r_ 794), (.bool true), (.int 181 0), (r_ 795), n_, n_, n_, (r_ 796), (.int 1267 0), (.int 751 0), (s_ "/claim/cut.py" 1268)]))), a_ []⟩),
  (798, ⟨(.type "function"), none, (f_ (top 126) "is_flat" "is_flat" 3 n_ n_ n_ (s_ "trellis.check_drawings" 1256) none (r_ 797) n_ 0), a_ []⟩)]
def nw2_14 (w : World) : List (Nat × Obj) := [
  (799, ⟨(.type "tuple"), none, (.seq (a_ []) 0), a_ []⟩),
  (800, ⟨n_, none, (.fields (a_ [])), a_ []⟩),
  (801, ⟨n_, none, (f_ (top 127) "are_lines" "are_lines" 0 n_ n_ n_ n_ none n_ n_ 0), a_ []⟩),
  (802, ⟨(.type "code"), none, (.fields (a_ ([(s_ "are_lines" 1270), (s_ "are_lines" 1271), (s_ "/claim/cut.py" 1272), (.int 759 0), (.int 4 0), (.int 0 0), (.int 0 0), (.int 3 0), (r_ 799), (.bool true), (.int 181 0), (r_ 800), n_, n_, n_, (r_ 801), (.int 1273 0), (.int 759 0), (s_ "/claim/cut.py" 1274)]))), a_ []⟩),
  (803, ⟨(.type "function"), none, (f_ (top 127) "are_lines" "are_lines" 3 n_ n_ n_ (s_ "trellis.check_drawings" 1256) none (r_ 802) n_ 0), a_ []⟩),
  (804, ⟨(.type "tuple"), none, (.seq (a_ []) 0), a_ []⟩),
  (805, ⟨n_, none, (.fields (a_ [])), a_ []⟩),
  (806, ⟨n_, none, (f_ (top 128) "all_pairs" "all_pairs" 0 n_ n_ n_ n_ none n_ n_ 0), a_ []⟩),
  (807, ⟨(.type "code"), none, (.fields (a_ ([(s_ "all_pairs" 1276), (s_ "all_pairs" 1277), (s_ "/claim/cut.py" 1278), (.int 767 0), (.int 1 0), (.int 0 0), (.int 0 0), (.int 3 0), (r_ 804), (.bool true), (.int 181 0), (r_ 805), n_, n_, n_, (r_ 806), (.int 1279 0), (.int 767 0), (s_ "/claim/cut.py" 1280)]))), a_ []⟩),
  (808, ⟨(.type "function"), none, (f_ (top 128) "all_pairs" "all_pairs" 3 n_ n_ n_ (s_ "trellis.check_drawings" 1256) none (r_ 807) n_ 0), a_ []⟩),
  (809, ⟨(.type "tuple"), none, (.seq (a_ []) 0), a_ []⟩),
  (810, ⟨n_, none, (.fields (a_ [])), a_ []⟩),
  (811, ⟨n_, none, (f_ (top 129) "sided_pairs" "sided_pairs" 0 n_ n_ n_ n_ none n_ n_ 0), a_ []⟩),
  (812, ⟨(.type "code"), none, (.fields (a_ ([(s_ "sided_pairs" 1282), (s_ "sided_pairs" 1283), (s_ "/claim/cut.py" 1284), (.int 769 0), (.int 2 0), (.int 0 0), (.int 0 0), (.int 3 0), (r_ 809), (.bool true), (.int 181 0), (r_ 810), n_, n_, n_, (r_ 811), (.int 1285 0), (.int 769 0), (s_ "/claim/cut.py" 1286)]))), a_ []⟩),
  (813, ⟨(.type "function"), none, (f_ (top 129) "sided_pairs" "sided_pairs" 3 n_ n_ n_ (s_ "trellis.check_drawings" 1256) none (r_ 812) n_ 0), a_ []⟩),
  (814, ⟨(.type "tuple"), none, (.seq (a_ []) 0), a_ []⟩),
  (815, ⟨n_, none, (.fields (a_ [])), a_ []⟩),
  (816, ⟨n_, none, (f_ (top 130) "is_star" "is_star" 0 n_ n_ n_ n_ none n_ n_ 0), a_ []⟩),
  (817, ⟨(.type "code"), none, (.fields (a_ ([(s_ "is_star" 1288), (s_ "is_star" 1289), (s_ "/claim/cut.py" 1290), (.int 771 0), (.int 4 0), (.int 0 0), (.int 0 0), (.int 3 0), (r_ 814), (.bool true), (.int 181 0), (r_ 815), n_, n_, n_, (r_ 816), (.int 1291 0), (.int 771 0), (s_ "/claim/cut.py" 1292)]))), a_ []⟩),
  (818, ⟨(.type "function"), none, (f_ (top 130) "is_star" "is_star" 3 n_ n_ n_ (s_ "trellis.check_drawings" 1256) none (r_ 817) n_ 0), a_ []⟩),
  (819, ⟨(.type "tuple"), none, (.seq (a_ []) 0), a_ []⟩),
  (820, ⟨n_, none, (.fields (a_ [])), a_ []⟩),
  (821, ⟨(.type "tuple"), none, (.seq (a_ ([(s_ "graph" 1297), (s_ "answer" 1298), (s_ "data" 1299)])) 0), a_ []⟩),
  (822, ⟨(.type "tuple"), none, (.seq (a_ []) 0), a_ []⟩),
  (823, ⟨n_, none, (f_ (top 131) "check_planar" "check_planar" 0 n_ n_ n_ n_ none n_ n_ 0), a_ []⟩)]
def nw2_15 (w : World) : List (Nat × Obj) := [
  (824, ⟨(.type "code"), none, (.fields (a_ ([(s_ "check_planar" 1294), (s_ "check_planar" 1295), (s_ "/claim/cut.py" 1296), (.int 776 0), (.int 3 0), (.int 0 0), (.int 0 0), (.int 3 0), (r_ 819), (.bool true), (.int 181 0), (r_ 820), n_, (r_ 821), (r_ 822), (r_ 823), (.int 1300 0), (.int 776 0), (s_ "/claim/cut.py" 1301)]))), a_ []⟩),
  (825, ⟨(.type "function"), none, (f_ (top 131) "check_planar" "check_planar" 3 n_ n_ n_ (s_ "trellis.check_drawings" 1256) none (r_ 824) n_ 0), a_ []⟩),
  (826, ⟨(.type "tuple"), none, (.seq (a_ []) 0), a_ []⟩),
  (827, ⟨n_, none, (.fields (a_ [])), a_ []⟩),
  (828, ⟨n_, none, (f_ (top 132) "do_cross" "do_cross" 0 n_ n_ n_ n_ none n_ n_ 0), a_ []⟩),
  (829, ⟨(.type "code"), none, (.fields (a_ ([(s_ "do_cross" 1303), (s_ "do_cross" 1304), (s_ "/claim/cut.py" 1305), (.int 780 0), (.int 3 0), (.int 0 0), (.int 0 0), (.int 3 0), (r_ 826), (.bool true), (.int 181 0), (r_ 827), n_, n_, n_, (r_ 828), (.int 1306 0), (.int 780 0), (s_ "/claim/cut.py" 1307)]))), a_ []⟩),
  (830, ⟨(.type "function"), none, (f_ (top 132) "do_cross" "do_cross" 3 n_ n_ n_ (s_ "trellis.check_drawings" 1256) none (r_ 829) n_ 0), a_ []⟩),
  (831, ⟨(.type "tuple"), none, (.seq (a_ []) 0), a_ []⟩),
  (832, ⟨n_, none, (.fields (a_ [])), a_ []⟩),
  (833, ⟨n_, none, (f_ (top 133) "check_outerplanar" "check_outerplanar" 0 n_ n_ n_ n_ none n_ n_ 0), a_ []⟩),
  (834, ⟨(.type "code"), none, (.fields (a_ ([(s_ "check_outerplanar" 1309), (s_ "check_outerplanar" 1310), (s_ "/claim/cut.py" 1311), (.int 787 0), (.int 3 0), (.int 0 0), (.int 0 0), (.int 3 0), (r_ 831), (.bool true), (.int 181 0), (r_ 832), n_, n_, n_, (r_ 833), (.int 1312 0), (.int 787 0), (s_ "/claim/cut.py" 1313)]))), a_ []⟩),
  (835, ⟨(.type "function"), none, (f_ (top 133) "check_outerplanar" "check_outerplanar" 3 n_ n_ n_ (s_ "trellis.check_drawings" 1256) none (r_ 834) n_ 0), a_ []⟩),
  (836, ⟨(.type "tuple"), none, (.seq (a_ []) 0), a_ []⟩),
  (837, ⟨(.type "builtin_function_or_method"), none, (.fields (a_ ([(.builtin "type.__prepare__"), (.type "type")]))), a_ []⟩),
  (838, ⟨(.type "dict"), none, (.dict (a_ ([e_ w "__module__" 1324 (s_ "trellis.drawers" 1315), e_ w "__qualname__" 1326 (s_ "Piece" 1325), e_ w "__firstlineno__" 1328 (.int 797 1327), e_ w "__init__" 1337 (r_ 849), e_ w "way" 1343 (r_ 854), e_ w "__static_attributes__" 1346 (r_ 855)])) 6), a_ []⟩),
  (839, ⟨(.type "tuple"), none, (.seq (a_ []) 0), a_ []⟩),
  (840, ⟨n_, none, (.fields (a_ ([(.int 799 0), (.int 4 0), (r_ 848), (.int 803 0), (.int 4 0), (r_ 853)]))), a_ []⟩),
  (841, ⟨(.type "code"), none, (.fields (a_ ([(s_ "Piece" 1319), (s_ "Piece" 1320), (s_ "/claim/cut.py" 1321), (.int 797 0), (.int 0 0), (.int 0 0), (.int 0 0), (.int 0 0), (r_ 839), (.bool false), (.int 181 0), (r_ 840), n_, n_, n_, n_, (.int 1322 0), (.int 797 0), (s_ "/claim/cut.py" 1323)]))), a_ []⟩),
  (842, ⟨(.type "frame"), none, .plain, a_ ([some (r_ 841), some (r_ 3), some (r_ 838), none, some (s_ "trellis.drawers" 1315), none, some (r_ 0)])⟩),
  (843, ⟨(.type "tuple"), none, (.seq (a_ []) 0), a_ []⟩),
  (844, ⟨n_, none, (.fields (a_ [])), a_ []⟩),
  (845, ⟨(.type "tuple"), none, (.seq (a_ ([(s_ "self" 1332), (s_ "inner" 1333), (s_ "ends" 1334)])) 0), a_ []⟩),
  (846, ⟨(.type "tuple"), none, (.seq (a_ []) 0), a_ []⟩),
  (847, ⟨n_, none, (f_ (inClass (top 135) 0) "__init__" "Piece.__init__" 0 n_ n_ n_ n_ none n_ n_ 0), a_ []⟩),
  (848, ⟨(.type "code"), none, (.fields (a_ ([(s_ "__init__" 1329), (s_ "Piece.__init__" 1330), (s_ "/claim/cut.py" 1331), (.int 799 0), (.int 3 0), (.int 0 0), (.int 0 0), (.int 3 0), (r_ 843), (.bool true), (.int 181 0), (r_ 844), n_, (r_ 845), (r_ 846), (r_ 847), (.int 1335 0), (.int 799 0), (s_ "/claim/cut.py" 1336)]))), a_ []⟩)]
def nw2_16 (w : World) : List (Nat × Obj) := [
  (849, ⟨(.type "function"), none, (f_ (inClass (top 135) 0) "__init__" "Piece.__init__" 3 n_ n_ n_ (s_ "trellis.drawers" 1315) none (r_ 848) n_ 0), a_ []⟩),
  (850, ⟨(.type "tuple"), none, (.seq (a_ []) 0), a_ []⟩),
  (851, ⟨n_, none, (.fields (a_ [])), a_ []⟩),
  (852, ⟨n_, none, (f_ (inClass (top 135) 1) "way" "Piece.way" 0 n_ n_ n_ n_ none n_ n_ 0), a_ []⟩),
  (853, ⟨(.type "code"), none, (.fields (a_ ([(s_ "way" 1338), (s_ "Piece.way" 1339), (s_ "/claim/cut.py" 1340), (.int 803 0), (.int 2 0), (.int 0 0), (.int 0 0), (.int 3 0), (r_ 850), (.bool true), (.int 181 0), (r_ 851), n_, n_, n_, (r_ 852), (.int 1341 0), (.int 803 0), (s_ "/claim/cut.py" 1342)]))), a_ []⟩),
  (854, ⟨(.type "function"), none, (f_ (inClass (top 135) 1) "way" "Piece.way" 3 n_ n_ n_ (s_ "trellis.drawers" 1315) none (r_ 853) n_ 0), a_ []⟩),
  (855, ⟨(.type "tuple"), none, (.seq (a_ ([(s_ "ends" 1344), (s_ "inner" 1345)])) 0), a_ []⟩),
  (856, ⟨(.type "dict"), none, (.dict (a_ ([e_ w "__module__" 1324 (s_ "trellis.drawers" 1315), e_ w "__firstlineno__" 1328 (.int 797 1327), e_ w "__init__" 1337 (r_ 849), e_ w "way" 1343 (r_ 854), e_ w "__static_attributes__" 1346 (r_ 855), e_ w "__dict__" 1348 (r_ 858), e_ w "__weakref__" 1350 (r_ 859), e_ w "__doc__" 1351 n_])) 4), a_ []⟩),
  (857, ⟨(.type "type"), none, (.cls ⟨(z "Piece"), ([(.type "object")]), ([(r_ 857), (.type "object")]), 856, (z "Piece"), true, [], [], false, none, false⟩), a_ ([none, none, some (s_ "Piece" 1317), some (s_ "Piece" 1325), some (.builtin "object.__new__"), some (.bool true)])⟩),
  (858, ⟨(.type "getset_descriptor"), none, (.fields (a_ ([(s_ "__dict__" 1347), (r_ 857), (.builtin "function.__dict__"), (.builtin "function.__dict__#set")]))), a_ []⟩),
  (859, ⟨(.type "getset_descriptor"), none, (.fields (a_ ([(s_ "__weakref__" 1349), (r_ 857), (.builtin "ExceptionGroup.__weakref__"), n_]))), a_ []⟩),
  (860, ⟨(.type "super"), none, (.fields (a_ ([(r_ 857), (r_ 857), (r_ 857)]))), a_ []⟩),
  (861, ⟨(.type "builtin_function_or_method"), none, (.fields (a_ ([(.builtin "object.__init_subclass__"), (r_ 857)]))), a_ []⟩),
  (862, ⟨(.type "tuple"), none, (.seq (a_ []) 0), a_ []⟩),
  (863, ⟨(.type "builtin_function_or_method"), none, (.fields (a_ ([(.builtin "type.__prepare__"), (.type "type")]))), a_ []⟩),
  (864, ⟨(.type "dict"), none, (.dict (a_ ([e_ w "__module__" 1361 (s_ "trellis.drawers" 1315), e_ w "__qualname__" 1363 (s_ "Drawer" 1362), e_ w "__firstlineno__" 1365 (.int 809 1364), e_ w "__init__" 1371 (r_ 873), e_ w "drawn_vertices" 1377 (r_ 878), e_ w "pieces" 1383 (r_ 883), e_ w "fitting_walks" 1389 (r_ 888), e_ w "draw" 1395 (r_ 893), e_ w "go_on" 1406 (r_ 900), e_ w "rotation" 1412 (r_ 905), e_ w "item" 1422 (r_ 912), e_ w "__static_attributes__" 1426 (r_ 913)])) 12), a_ []⟩),
  (865, ⟨(.type "tuple"), none, (.seq (a_ []) 0), a_ []⟩),
  (866, ⟨n_, none, (.fields (a_ ([(.int 811 0), (.int 4 0), (r_ 872), (.int 817 0), (.int 4 0), (r_ 877), (.int 820 0), (.int 4 0), (r_ 882), (.int 831 0), (.int 4 0), (r_ 887), (.int 834 0), (.int 4 0), (r_ 892), (.int 844 0), (.int 4 0), (r_ 899), (.int 852 0), (.int 4 0), (r_ 904), (.int 862 0), (.int 4 0), (r_ 911)]))), a_ []⟩),
  (867, ⟨(.type "code"), none, (.fields (a_ ([(s_ "Drawer" 1356), (s_ "Drawer" 1357), (s_ "/claim/cut.py" 1358), (.int 809 0), (.int 0 0), (.int 0 0), (.int 0 0), (.int 0 0), (r_ 865), (.bool false), (.int 181 0), (r_ 866), n_, n_, n_, n_, (.int 1359 0), (.int 809 0), (s_ "/claim/cut.py" 1360)]))), a_ []⟩),
  (868, ⟨(.type "frame"), none, .plain, a_ ([some (r_ 867), some (r_ 3), some (r_ 864), none, some (s_ "trellis.drawers" 1315), none, some (r_ 0)])⟩),
  (869, ⟨(.type "tuple"), none, (.seq (a_ []) 0), a_ []⟩),
  (870, ⟨n_, none, (.fields (a_ [])), a_ []⟩),
  (871, ⟨n_, none, (f_ (inClass (top 136) 0) "__init__" "Drawer.__init__" 0 n_ n_ n_ n_ none n_ n_ 0), a_ []⟩),
  (872, ⟨(.type "code"), none, (.fields (a_ ([(s_ "__init__" 1366), (s_ "Drawer.__init__" 1367), (s_ "/claim/cut.py" 1368), (.int 811 0), (.int 2 0), (.int 0 0), (.int 0 0), (.int 3 0), (r_ 869), (.bool true), (.int 181 0), (r_ 870), n_, n_, n_, (r_ 871), (.int 1369 0), (.int 811 0), (s_ "/claim/cut.py" 1370)]))), a_ []⟩),
  (873, ⟨(.type "function"), none, (f_ (inClass (top 136) 0) "__init__" "Drawer.__init__" 3 n_ n_ n_ (s_ "trellis.drawers" 1315) none (r_ 872) n_ 0), a_ []⟩)]
def nw2_17 (w : World) : List (Nat × Obj) := [
  (874, ⟨(.type "tuple"), none, (.seq (a_ []) 0), a_ []⟩),
  (875, ⟨n_, none, (.fields (a_ [])), a_ []⟩),
  (876, ⟨n_, none, (f_ (inClass (top 136) 1) "drawn_vertices" "Drawer.drawn_vertices" 0 n_ n_ n_ n_ none n_ n_ 0), a_ []⟩),
  (877, ⟨(.type "code"), none, (.fields (a_ ([(s_ "drawn_vertices" 1372), (s_ "Drawer.drawn_vertices" 1373), (s_ "/claim/cut.py" 1374), (.int 817 0), (.int 1 0), (.int 0 0), (.int 0 0), (.int 3 0), (r_ 874), (.bool true), (.int 181 0), (r_ 875), n_, n_, n_, (r_ 876), (.int 1375 0), (.int 817 0), (s_ "/claim/cut.py" 1376)]))), a_ []⟩),
  (878, ⟨(.type "function"), none, (f_ (inClass (top 136) 1) "drawn_vertices" "Drawer.drawn_vertices" 3 n_ n_ n_ (s_ "trellis.drawers" 1315) none (r_ 877) n_ 0), a_ []⟩),
  (879, ⟨(.type "tuple"), none, (.seq (a_ []) 0), a_ []⟩),
  (880, ⟨n_, none, (.fields (a_ [])), a_ []⟩),
  (881, ⟨n_, none, (f_ (inClass (top 136) 2) "pieces" "Drawer.pieces" 0 n_ n_ n_ n_ none n_ n_ 0), a_ []⟩),
  (882, ⟨(.type "code"), none, (.fields (a_ ([(s_ "pieces" 1378), (s_ "Drawer.pieces" 1379), (s_ "/claim/cut.py" 1380), (.int 820 0), (.int 1 0), (.int 0 0), (.int 0 0), (.int 3 0), (r_ 879), (.bool true), (.int 181 0), (r_ 880), n_, n_, n_, (r_ 881), (.int 1381 0), (.int 820 0), (s_ "/claim/cut.py" 1382)]))), a_ []⟩),
  (883, ⟨(.type "function"), none, (f_ (inClass (top 136) 2) "pieces" "Drawer.pieces" 3 n_ n_ n_ (s_ "trellis.drawers" 1315) none (r_ 882) n_ 0), a_ []⟩),
  (884, ⟨(.type "tuple"), none, (.seq (a_ []) 0), a_ []⟩),
  (885, ⟨n_, none, (.fields (a_ [])), a_ []⟩),
  (886, ⟨n_, none, (f_ (inClass (top 136) 3) "fitting_walks" "Drawer.fitting_walks" 0 n_ n_ n_ n_ none n_ n_ 0), a_ []⟩),
  (887, ⟨(.type "code"), none, (.fields (a_ ([(s_ "fitting_walks" 1384), (s_ "Drawer.fitting_walks" 1385), (s_ "/claim/cut.py" 1386), (.int 831 0), (.int 2 0), (.int 0 0), (.int 0 0), (.int 3 0), (r_ 884), (.bool true), (.int 181 0), (r_ 885), n_, n_, n_, (r_ 886), (.int 1387 0), (.int 831 0), (s_ "/claim/cut.py" 1388)]))), a_ []⟩),
  (888, ⟨(.type "function"), none, (f_ (inClass (top 136) 3) "fitting_walks" "Drawer.fitting_walks" 3 n_ n_ n_ (s_ "trellis.drawers" 1315) none (r_ 887) n_ 0), a_ []⟩),
  (889, ⟨(.type "tuple"), none, (.seq (a_ []) 0), a_ []⟩),
  (890, ⟨n_, none, (.fields (a_ [])), a_ []⟩),
  (891, ⟨n_, none, (f_ (inClass (top 136) 4) "draw" "Drawer.draw" 0 n_ n_ n_ n_ none n_ n_ 0), a_ []⟩),
  (892, ⟨(.type "code"), none, (.fields (a_ ([(s_ "draw" 1390), (s_ "Drawer.draw" 1391), (s_ "/claim/cut.py" 1392), (.int 834 0), (.int 3 0), (.int 0 0), (.int 0 0), (.int 3 0), (r_ 889), (.bool true), (.int 181 0), (r_ 890), n_, n_, n_, (r_ 891), (.int 1393 0), (.int 834 0), (s_ "/claim/cut.py" 1394)]))), a_ []⟩),
  (893, ⟨(.type "function"), none, (f_ (inClass (top 136) 4) "draw" "Drawer.draw" 3 n_ n_ n_ (s_ "trellis.drawers" 1315) none (r_ 892) n_ 0), a_ []⟩),
  (894, ⟨(.type "tuple"), none, (.seq (a_ []) 0), a_ []⟩),
  (895, ⟨n_, none, (.fields (a_ [])), a_ []⟩),
  (896, ⟨(.type "tuple"), none, (.seq (a_ ([(s_ "self" 1399), (s_ "pieces" 1400), (s_ "best" 1401), (s_ "walks" 1402)])) 0), a_ []⟩),
  (897, ⟨(.type "tuple"), none, (.seq (a_ ([(s_ "self" 1403)])) 0), a_ []⟩),
  (898, ⟨n_, none, (f_ (inClass (top 136) 5) "go_on" "Drawer.go_on" 0 n_ n_ n_ n_ none n_ n_ 0), a_ []⟩)]
def nw2_18 (w : World) : List (Nat × Obj) := [
  (899, ⟨(.type "code"), none, (.fields (a_ ([(s_ "go_on" 1396), (s_ "Drawer.go_on" 1397), (s_ "/claim/cut.py" 1398), (.int 844 0), (.int 1 0), (.int 0 0), (.int 0 0), (.int 3 0), (r_ 894), (.bool true), (.int 181 0), (r_ 895), n_, (r_ 896), (r_ 897), (r_ 898), (.int 1404 0), (.int 844 0), (s_ "/claim/cut.py" 1405)]))), a_ []⟩),
  (900, ⟨(.type "function"), none, (f_ (inClass (top 136) 5) "go_on" "Drawer.go_on" 3 n_ n_ n_ (s_ "trellis.drawers" 1315) none (r_ 899) n_ 0), a_ []⟩),
  (901, ⟨(.type "tuple"), none, (.seq (a_ []) 0), a_ []⟩),
  (902, ⟨n_, none, (.fields (a_ [])), a_ []⟩),
  (903, ⟨n_, none, (f_ (inClass (top 136) 6) "rotation" "Drawer.rotation" 0 n_ n_ n_ n_ none n_ n_ 0), a_ []⟩),
  (904, ⟨(.type "code"), none, (.fields (a_ ([(s_ "rotation" 1407), (s_ "Drawer.rotation" 1408), (s_ "/claim/cut.py" 1409), (.int 852 0), (.int 1 0), (.int 0 0), (.int 0 0), (.int 3 0), (r_ 901), (.bool true), (.int 181 0), (r_ 902), n_, n_, n_, (r_ 903), (.int 1410 0), (.int 852 0), (s_ "/claim/cut.py" 1411)]))), a_ []⟩),
  (905, ⟨(.type "function"), none, (f_ (inClass (top 136) 6) "rotation" "Drawer.rotation" 3 n_ n_ n_ (s_ "trellis.drawers" 1315) none (r_ 904) n_ 0), a_ []⟩),
  (906, ⟨(.type "tuple"), none, (.seq (a_ []) 0), a_ []⟩),
  (907, ⟨n_, none, (.fields (a_ [])), a_ []⟩),
  (908, ⟨(.type "tuple"), none, (.seq (a_ ([(s_ "self" 1416), (s_ "behind" 1417), (s_ "v" 1418), (s_ "item" 1419)])) 0), a_ []⟩),
  (909, ⟨(.type "tuple"), none, (.seq (a_ []) 0), a_ []⟩),
  (910, ⟨n_, none, (f_ (inClass (top 136) 7) "item" "Drawer.item" 0 n_ n_ n_ n_ none n_ n_ 0), a_ []⟩),
  (911, ⟨(.type "code"), none, (.fields (a_ ([(s_ "item" 1413), (s_ "Drawer.item" 1414), (s_ "/claim/cut.py" 1415), (.int 862 0), (.int 3 0), (.int 0 0), (.int 0 0), (.int 3 0), (r_ 906), (.bool true), (.int 181 0), (r_ 907), n_, (r_ 908), (r_ 909), (r_ 910), (.int 1420 0), (.int 862 0), (s_ "/claim/cut.py" 1421)]))), a_ []⟩),
  (912, ⟨(.type "function"), none, (f_ (inClass (top 136) 7) "item" "Drawer.item" 3 n_ n_ n_ (s_ "trellis.drawers" 1315) none (r_ 911) n_ 0), a_ []⟩),
  (913, ⟨(.type "tuple"), none, (.seq (a_ ([(s_ "drawn" 1423), (s_ "graph" 1424), (s_ "walks" 1425)])) 0), a_ []⟩),
  (914, ⟨(.type "dict"), none, (.dict (a_ ([e_ w "__module__" 1361 (s_ "trellis.drawers" 1315), e_ w "__firstlineno__" 1365 (.int 809 1364), e_ w "__init__" 1371 (r_ 873), e_ w "drawn_vertices" 1377 (r_ 878), e_ w "pieces" 1383 (r_ 883), e_ w "fitting_walks" 1389 (r_ 888), e_ w "draw" 1395 (r_ 893), e_ w "go_on" 1406 (r_ 900), e_ w "rotation" 1412 (r_ 905), e_ w "item" 1422 (r_ 912), e_ w "__static_attributes__" 1426 (r_ 913), e_ w "__dict__" 1428 (r_ 916), e_ w "__weakref__" 1430 (r_ 917), e_ w "__doc__" 1431 n_])) 4), a_ []⟩),
  (915, ⟨(.type "type"), none, (.cls ⟨(z "Drawer"), ([(.type "object")]), ([(r_ 915), (.type "object")]), 914, (z "Drawer"), true, [], [], false, none, false⟩), a_ ([none, none, some (s_ "Drawer" 1354), some (s_ "Drawer" 1362), some (.builtin "object.__new__"), some (.bool true)])⟩),
  (916, ⟨(.type "getset_descriptor"), none, (.fields (a_ ([(s_ "__dict__" 1427), (r_ 915), (.builtin "function.__dict__"), (.builtin "function.__dict__#set")]))), a_ []⟩),
  (917, ⟨(.type "getset_descriptor"), none, (.fields (a_ ([(s_ "__weakref__" 1429), (r_ 915), (.builtin "ExceptionGroup.__weakref__"), n_]))), a_ []⟩),
  (918, ⟨(.type "super"), none, (.fields (a_ ([(r_ 915), (r_ 915), (r_ 915)]))), a_ []⟩),
  (919, ⟨(.type "builtin_function_or_method"), none, (.fields (a_ ([(.builtin "object.__init_subclass__"), (r_ 915)]))), a_ []⟩),
  (920, ⟨(.type "tuple"), none, (.seq (a_ []) 0), a_ []⟩),
  (921, ⟨n_, none, (.fields (a_ [])), a_ []⟩),
  (922, ⟨n_, none, (f_ (top 137) "block_rotation" "block_rotation" 0 n_ n_ n_ n_ none n_ n_ 0), a_ []⟩),
  (923, ⟨(.type "code"), none, (.fields (a_ ([(s_ "block_rotation" 1434), (s_ "block_rotation" 1435), (s_ "/claim/cut.py" 1436), (.int 867 0), (.int 1 0), (.int 0 0), (.int 0 0), (.int 3 0), (r_ 920), (.bool true), (.int 181 0), (r_ 921), n_, n_, n_, (r_ 922), (.int 1437 0), (.int 867 0), (s_ "/claim/cut.py" 1438)]))), a_ []⟩)]
def nw2_19 (w : World) : List (Nat × Obj) := [
  (924, ⟨(.type "function"), none, (f_ (top 137) "block_rotation" "block_rotation" 3 n_ n_ n_ (s_ "trellis.drawers" 1315) none (r_ 923) n_ 0), a_ []⟩),
  (925, ⟨(.type "tuple"), none, (.seq (a_ []) 0), a_ []⟩),
  (926, ⟨n_, none, (.fields (a_ [])), a_ []⟩),
  (927, ⟨n_, none, (f_ (top 138) "flat_rotation" "flat_rotation" 0 n_ n_ n_ n_ none n_ n_ 0), a_ []⟩),
  (928, ⟨(.type "code"), none, (.fields (a_ ([(s_ "flat_rotation" 1440), (s_ "flat_rotation" 1441), (s_ "/claim/cut.py" 1442), (.int 871 0), (.int 1 0), (.int 0 0), (.int 0 0), (.int 3 0), (r_ 925), (.bool true), (.int 181 0), (r_ 926), n_, n_, n_, (r_ 927), (.int 1443 0), (.int 871 0), (s_ "/claim/cut.py" 1444)]))), a_ []⟩),
  (929, ⟨(.type "function"), none, (f_ (top 138) "flat_rotation" "flat_rotation" 3 n_ n_ n_ (s_ "trellis.drawers" 1315) none (r_ 928) n_ 0), a_ []⟩),
  (930, ⟨(.type "tuple"), none, (.seq (a_ []) 0), a_ []⟩),
  (931, ⟨n_, none, (.fields (a_ [])), a_ []⟩),
  (932, ⟨n_, none, (f_ (top 139) "ring_order" "ring_order" 0 n_ n_ n_ n_ none n_ n_ 0), a_ []⟩),
  (933, ⟨(.type "code"), none, (.fields (a_ ([(s_ "ring_order" 1446), (s_ "ring_order" 1447), (s_ "/claim/cut.py" 1448), (.int 880 0), (.int 1 0), (.int 0 0), (.int 0 0), (.int 3 0), (r_ 930), (.bool true), (.int 181 0), (r_ 931), n_, n_, n_, (r_ 932), (.int 1449 0), (.int 880 0), (s_ "/claim/cut.py" 1450)]))), a_ []⟩),
  (934, ⟨(.type "function"), none, (f_ (top 139) "ring_order" "ring_order" 3 n_ n_ n_ (s_ "trellis.drawers" 1315) none (r_ 933) n_ 0), a_ []⟩)]
def tr3 (w : World) : BT := insL (nw2_19 w) (insL (nw2_18 w) (insL (nw2_17 w) (insL (nw2_16 w) (insL (nw2_15 w) (insL (nw2_14 w) (insL (nw2_13 w) (insL (nw2_12 w) (insL (nw2_11 w) (insL (nw2_10 w) (insL (nw2_9 w) (insL (nw2_8 w) (insL (nw2_7 w) (insL (nw2_6 w) (insL (nw2_5 w) (insL (nw2_4 w) (insL (nw2_3 w) (insL (nw2_2 w) (insL (nw2_1 w) (insL (nw2_0 w) (tr2 w))))))))))))))))))))
def nw3_0 (w : World) : List (Nat × Obj) := [
  (3, ⟨(.type "dict"), none, (.dict (a_ ([e_ w "__name__" 165 (s_ "trellis.check_sparse" 1860), e_ w "__doc__" 166 n_, e_ w "__package__" 167 n_, e_ w "__loader__" 168 (.builtin "__main__.__loader__#opaque"), e_ w "__spec__" 169 n_, e_ w "__annotations__" 170 (r_ 6), e_ w "__builtins__" 171 (r_ 4), e_ w "__file__" 173 (s_ "/claim/cut.py" 172), e_ w "__cached__" 174 n_, e_ w "TrellisError" 206 (r_ 24), e_ w "BadGraph" 222 (r_ 37), e_ w "BadQuestion" 238 (r_ 49), e_ w "MOST_VERTICES" 242 (.int 60 241), e_ w "is_integer" 249 (r_ 58), e_ w "is_integer_tuple" 255 (r_ 63), e_ w "is_ascending" 261 (r_ 68), e_ w "is_graph" 271 (r_ 75), e_ w "pair_of" 279 (r_ 82), e_ w "made_graph" 290 (r_ 89), e_ w "are_neighbours" 299 (r_ 96), e_ w "neighbours" 305 (r_ 101), e_ w "inside" 311 (r_ 106), e_ w "part_of" 324 (r_ 113), e_ w "parts_of" 330 (r_ 118), e_ w "components" 337 (r_ 125), e_ w "is_connected" 345 (r_ 132), e_ w "complement" 351 (r_ 137), e_ w "induced" 357 (r_ 142), e_ w "renamed" 363 (r_ 147), e_ w "is_vertex_tuple" 371 (r_ 152)] ++ [e_ w "is_set" 379 (r_ 159), e_ w "is_order" 387 (r_ 166), e_ w "is_edge" 395 (r_ 173), e_ w "is_arrow" 403 (r_ 180), e_ w "is_tuple_of" 411 (r_ 187), e_ w "are_sets" 417 (r_ 192), e_ w "are_edges" 423 (r_ 197), e_ w "is_direction" 429 (r_ 202), e_ w "is_clique" 435 (r_ 207), e_ w "is_split" 443 (r_ 214), e_ w "is_small_integer" 451 (r_ 221), e_ w "is_path" 459 (r_ 226), e_ w "is_path_between" 469 (r_ 233), e_ w "is_cycle" 477 (r_ 240), e_ w "shortest_path" 492 (r_ 247), e_ w "without_edge" 498 (r_ 252), e_ w "shortest_cycle" 508 (r_ 259), e_ w "connects_all" 518 (r_ 266), e_ w "is_spanning_tree" 526 (r_ 273), e_ w "crosses" 534 (r_ 280), e_ w "check_connected" 540 (r_ 285), e_ w "check_bipartite" 546 (r_ 290), e_ w "behind" 552 (r_ 295), e_ w "check_forest" 558 (r_ 300), e_ w "are_ears" 564 (r_ 305), e_ w "check_block" 570 (r_ 310), e_ w "are_apart" 576 (r_ 315), e_ w "check_linked" 582 (r_ 320), e_ w "components_without" 588 (r_ 325), e_ w "merged" 596 (r_ 330)] ++ [e_ w "is_colour_search" 602 (r_ 335), e_ w "check_colours" 608 (r_ 340), e_ w "is_set_search" 614 (r_ 345), e_ w "check_independent" 620 (r_ 350), e_ w "matching_bound" 626 (r_ 355), e_ w "check_matching" 632 (r_ 360), e_ w "near_with_degree" 638 (r_ 365), e_ w "PairingChecker" 688 (r_ 394), e_ w "check_isomorphic" 698 (r_ 405), e_ w "fits" 706 (r_ 410), e_ w "pairings" 717 (r_ 417), e_ w "PairingFinder" 767 (r_ 446), e_ w "decide_isomorphic" 776 (r_ 457), e_ w "has_no_chord" 791 (r_ 464), e_ w "is_hole" 799 (r_ 471), e_ w "check_chordal" 805 (r_ 476), e_ w "is_interval" 812 (r_ 483), e_ w "do_meet" 820 (r_ 490), e_ w "is_asteroid" 826 (r_ 495), e_ w "check_interval" 832 (r_ 500), e_ w "forces" 845 (r_ 507), e_ w "is_chain" 851 (r_ 512), e_ w "is_transitive" 862 (r_ 519), e_ w "check_comparability" 871 (r_ 526), e_ w "check_permutation" 886 (r_ 533), e_ w "leaves_of" 896 (r_ 540), e_ w "joined_pairs" 902 (r_ 545), e_ w "check_cograph" 912 (r_ 552), e_ w "find_hole" 920 (r_ 557), e_ w "clique_order" 926 (r_ 562)] ++ [e_ w "decide_chordal" 934 (r_ 569), e_ w "largest_cliques" 940 (r_ 574), e_ w "are_together" 946 (r_ 579), e_ w "clique_row" 958 (r_ 586), e_ w "may_go_on" 964 (r_ 591), e_ w "asteroid" 980 (r_ 598), e_ w "decide_interval" 986 (r_ 603), e_ w "all_arrows" 992 (r_ 608), e_ w "forced_arrows" 998 (r_ 613), e_ w "forcing_ways" 1010 (r_ 620), e_ w "arrow_classes" 1016 (r_ 625), e_ w "find_chain" 1028 (r_ 632), e_ w "transitive_direction" 1034 (r_ 637), e_ w "decide_comparability" 1040 (r_ 642), e_ w "row_of" 1046 (r_ 647), e_ w "decide_permutation" 1052 (r_ 652), e_ w "search_tree" 1066 (r_ 659), e_ w "decide_connected" 1072 (r_ 664), e_ w "way_up" 1081 (r_ 671), e_ w "ring" 1087 (r_ 676), e_ w "decide_bipartite" 1093 (r_ 681), e_ w "stripped" 1099 (r_ 686), e_ w "decide_forest" 1108 (r_ 693), e_ w "cut_of" 1114 (r_ 698), e_ w "next_ear" 1120 (r_ 703), e_ w "decide_block" 1130 (r_ 710), e_ w "PathSystem" 1208 (r_ 753), e_ w "decide_linked" 1221 (r_ 764), e_ w "next_arrow" 1234 (r_ 771), e_ w "faces" 1240 (r_ 776)] ++ [e_ w "block_sets" 1246 (r_ 781), e_ w "blocks" 1255 (r_ 788), e_ w "is_rotation" 1263 (r_ 793), e_ w "is_flat" 1269 (r_ 798), e_ w "are_lines" 1275 (r_ 803), e_ w "all_pairs" 1281 (r_ 808), e_ w "sided_pairs" 1287 (r_ 813), e_ w "is_star" 1293 (r_ 818), e_ w "check_planar" 1302 (r_ 825), e_ w "do_cross" 1308 (r_ 830), e_ w "check_outerplanar" 1314 (r_ 835), e_ w "Piece" 1353 (r_ 857), e_ w "Drawer" 1433 (r_ 915), e_ w "block_rotation" 1439 (r_ 924), e_ w "flat_rotation" 1445 (r_ 929), e_ w "ring_order" 1451 (r_ 934), e_ w "least_part" 1461 (r_ 941), e_ w "lines_between" 1467 (r_ 946), e_ w "star" 1473 (r_ 951), e_ w "sided" 1479 (r_ 956), e_ w "decide_planar" 1485 (r_ 961), e_ w "decide_outerplanar" 1491 (r_ 966), e_ w "two_star" 1497 (r_ 971), e_ w "are_links" 1508 (r_ 978), e_ w "is_decomposition" 1514 (r_ 983), e_ w "width_of" 1520 (r_ 988), e_ w "filled" 1526 (r_ 993), e_ w "from_order" 1540 (r_ 1000), e_ w "order_width" 1546 (r_ 1005), e_ w "touch" 1552 (r_ 1010)] ++ [e_ w "hits" 1558 (r_ 1015), e_ w "sets_of" 1564 (r_ 1020), e_ w "hitting_set" 1574 (r_ 1027), e_ w "is_bramble" 1580 (r_ 1032), e_ w "check_width" 1590 (r_ 1039), e_ w "best_matching" 1598 (r_ 1044), e_ w "largest_matching" 1605 (r_ 1051), e_ w "barrier" 1615 (r_ 1058), e_ w "decide_matching" 1624 (r_ 1065), e_ w "splits" 1632 (r_ 1070), e_ w "is_growing" 1643 (r_ 1077), e_ w "is_module" 1649 (r_ 1082), e_ w "check_prime" 1655 (r_ 1087), e_ w "least_module" 1661 (r_ 1092), e_ w "overlap" 1667 (r_ 1097), e_ w "strong_modules" 1673 (r_ 1102), e_ w "largest_within" 1679 (r_ 1107), e_ w "tree_of" 1685 (r_ 1112), e_ w "module_tree" 1692 (r_ 1119), e_ w "bare_paths" 1698 (r_ 1124), e_ w "decide_cograph" 1706 (r_ 1131), e_ w "decide_prime" 1718 (r_ 1138), e_ w "growth" 1724 (r_ 1143), e_ w "PLAIN_KINDS" 1739 (r_ 1144), e_ w "NUMBER_KINDS" 1748 (r_ 1145), e_ w "is_number" 1755 (r_ 1152), e_ w "is_vertex" 1763 (r_ 1159), e_ w "is_question" 1776 (r_ 1166), e_ w "check_question" 1784 (r_ 1173), e_ w "colouring" 1792 (r_ 1178)] ++ [e_ w "clique_in" 1802 (r_ 1185), e_ w "common_neighbours" 1808 (r_ 1190), e_ w "colour_search" 1814 (r_ 1195), e_ w "decide_colours" 1823 (r_ 1202), e_ w "is_apart" 1829 (r_ 1207), e_ w "apart_set" 1838 (r_ 1214), e_ w "cover" 1844 (r_ 1219), e_ w "set_search" 1850 (r_ 1224), e_ w "decide_independent" 1859 (r_ 1231), e_ w "check_degenerate" 1867 (r_ 1236)])) 190), a_ []⟩),
  (12, ⟨n_, none, (.fields (a_ ([(.int 2 0), (.int 0 0), (r_ 20), (.int 4 0), (.int 0 0), (r_ 33), (.int 6 0), (.int 0 0), (r_ 45), (.int 10 0), (.int 0 0), (r_ 57), (.int 12 0), (.int 0 0), (r_ 62), (.int 14 0), (.int 0 0), (r_ 67), (.int 16 0), (.int 0 0), (r_ 74), (.int 26 0), (.int 0 0), (r_ 81), (.int 28 0), (.int 0 0), (r_ 88), (.int 37 0), (.int 0 0), (r_ 95)] ++ [(.int 39 0), (.int 0 0), (r_ 100), (.int 41 0), (.int 0 0), (r_ 105), (.int 43 0), (.int 0 0), (r_ 112), (.int 53 0), (.int 0 0), (r_ 117), (.int 59 0), (.int 0 0), (r_ 124), (.int 61 0), (.int 0 0), (r_ 131), (.int 63 0), (.int 0 0), (r_ 136), (.int 66 0), (.int 0 0), (r_ 141), (.int 70 0), (.int 0 0), (r_ 146), (.int 73 0), (.int 0 0), (r_ 151)] ++ [(.int 77 0), (.int 0 0), (r_ 158), (.int 79 0), (.int 0 0), (r_ 165), (.int 81 0), (.int 0 0), (r_ 172), (.int 83 0), (.int 0 0), (r_ 179), (.int 87 0), (.int 0 0), (r_ 186), (.int 89 0), (.int 0 0), (r_ 191), (.int 91 0), (.int 0 0), (r_ 196), (.int 93 0), (.int 0 0), (r_ 201), (.int 97 0), (.int 0 0), (r_ 206), (.int 99 0), (.int 0 0), (r_ 213)] ++ [(.int 101 0), (.int 0 0), (r_ 220), (.int 104 0), (.int 0 0), (r_ 225), (.int 108 0), (.int 0 0), (r_ 232), (.int 110 0), (.int 0 0), (r_ 239), (.int 112 0), (.int 0 0), (r_ 246), (.int 128 0), (.int 0 0), (r_ 251), (.int 130 0), (.int 0 0), (r_ 258), (.int 138 0), (.int 0 0), (r_ 265), (.int 140 0), (.int 0 0), (r_ 272), (.int 142 0), (.int 0 0), (r_ 279)] ++ [(.int 144 0), (.int 0 0), (r_ 284), (.int 150 0), (.int 0 0), (r_ 289), (.int 154 0), (.int 0 0), (r_ 294), (.int 157 0), (.int 0 0), (r_ 299), (.int 161 0), (.int 0 0), (r_ 304), (.int 172 0), (.int 0 0), (r_ 309), (.int 185 0), (.int 0 0), (r_ 314), (.int 188 0), (.int 0 0), (r_ 319), (.int 198 0), (.int 0 0), (r_ 324), (.int 201 0), (.int 0 0), (r_ 329)] ++ [(.int 204 0), (.int 0 0), (r_ 334), (.int 218 0), (.int 0 0), (r_ 339), (.int 224 0), (.int 0 0), (r_ 344), (.int 236 0), (.int 0 0), (r_ 349), (.int 242 0), (.int 0 0), (r_ 354), (.int 245 0), (.int 0 0), (r_ 359), (.int 252 0), (.int 0 0), (r_ 364), (.int 254 0), (.int 0 0), (r_ 371), (.int 283 0), (.int 0 0), (r_ 404), (.int 290 0), (.int 0 0), (r_ 409)] ++ [(.int 293 0), (.int 0 0), (r_ 416), (.int 301 0), (.int 0 0), (r_ 423), (.int 326 0), (.int 0 0), (r_ 456), (.int 332 0), (.int 0 0), (r_ 463), (.int 339 0), (.int 0 0), (r_ 470), (.int 341 0), (.int 0 0), (r_ 475), (.int 347 0), (.int 0 0), (r_ 482), (.int 349 0), (.int 0 0), (r_ 489), (.int 351 0), (.int 0 0), (r_ 494), (.int 361 0), (.int 0 0), (r_ 499)] ++ [(.int 371 0), (.int 0 0), (r_ 506), (.int 377 0), (.int 0 0), (r_ 511), (.int 383 0), (.int 0 0), (r_ 518), (.int 389 0), (.int 0 0), (r_ 525), (.int 393 0), (.int 0 0), (r_ 532), (.int 410 0), (.int 0 0), (r_ 539), (.int 422 0), (.int 0 0), (r_ 544), (.int 434 0), (.int 0 0), (r_ 551), (.int 442 0), (.int 0 0), (r_ 556), (.int 453 0), (.int 0 0), (r_ 561)] ++ [(.int 463 0), (.int 0 0), (r_ 568), (.int 466 0), (.int 0 0), (r_ 573), (.int 471 0), (.int 0 0), (r_ 578), (.int 477 0), (.int 0 0), (r_ 585), (.int 487 0), (.int 0 0), (r_ 590), (.int 495 0), (.int 0 0), (r_ 597), (.int 507 0), (.int 0 0), (r_ 602), (.int 517 0), (.int 0 0), (r_ 607), (.int 519 0), (.int 0 0), (r_ 612), (.int 521 0), (.int 0 0), (r_ 619)] ++ [(.int 531 0), (.int 0 0), (r_ 624), (.int 537 0), (.int 0 0), (r_ 631), (.int 549 0), (.int 0 0), (r_ 636), (.int 557 0), (.int 0 0), (r_ 641), (.int 563 0), (.int 0 0), (r_ 646), (.int 566 0), (.int 0 0), (r_ 651), (.int 577 0), (.int 0 0), (r_ 658), (.int 587 0), (.int 0 0), (r_ 663), (.int 592 0), (.int 0 0), (r_ 670), (.int 597 0), (.int 0 0), (r_ 675)] ++ [(.int 603 0), (.int 0 0), (r_ 680), (.int 613 0), (.int 0 0), (r_ 685), (.int 622 0), (.int 0 0), (r_ 692), (.int 625 0), (.int 0 0), (r_ 697), (.int 631 0), (.int 0 0), (r_ 702), (.int 640 0), (.int 0 0), (r_ 709), (.int 652 0), (.int 0 0), (r_ 716), (.int 707 0), (.int 0 0), (r_ 763), (.int 717 0), (.int 0 0), (r_ 770), (.int 721 0), (.int 0 0), (r_ 775)] ++ [(.int 731 0), (.int 0 0), (r_ 780), (.int 740 0), (.int 0 0), (r_ 787), (.int 747 0), (.int 0 0), (r_ 792), (.int 751 0), (.int 0 0), (r_ 797), (.int 759 0), (.int 0 0), (r_ 802), (.int 767 0), (.int 0 0), (r_ 807), (.int 769 0), (.int 0 0), (r_ 812), (.int 771 0), (.int 0 0), (r_ 817), (.int 776 0), (.int 0 0), (r_ 824), (.int 780 0), (.int 0 0), (r_ 829)] ++ [(.int 787 0), (.int 0 0), (r_ 834), (.int 797 0), (.int 0 0), (r_ 841), (.int 809 0), (.int 0 0), (r_ 867), (.int 867 0), (.int 0 0), (r_ 923), (.int 871 0), (.int 0 0), (r_ 928), (.int 880 0), (.int 0 0), (r_ 933), (.int 884 0), (.int 0 0), (r_ 940), (.int 890 0), (.int 0 0), (r_ 945), (.int 899 0), (.int 0 0), (r_ 950), (.int 902 0), (.int 0 0), (r_ 955)] ++ [(.int 906 0), (.int 0 0), (r_ 960), (.int 915 0), (.int 0 0), (r_ 965), (.int 924 0), (.int 0 0), (r_ 970), (.int 936 0), (.int 0 0), (r_ 977), (.int 943 0), (.int 0 0), (r_ 982), (.int 957 0), (.int 0 0), (r_ 987), (.int 959 0), (.int 0 0), (r_ 992), (.int 968 0), (.int 0 0), (r_ 999), (.int 979 0), (.int 0 0), (r_ 1004), (.int 981 0), (.int 0 0), (r_ 1009)] ++ [(.int 986 0), (.int 0 0), (r_ 1014), (.int 988 0), (.int 0 0), (r_ 1019), (.int 995 0), (.int 0 0), (r_ 1026), (.int 1000 0), (.int 0 0), (r_ 1031), (.int 1007 0), (.int 0 0), (r_ 1038), (.int 1012 0), (.int 0 0), (r_ 1043), (.int 1020 0), (.int 0 0), (r_ 1050), (.int 1022 0), (.int 0 0), (r_ 1057), (.int 1029 0), (.int 0 0), (r_ 1064), (.int 1033 0), (.int 0 0), (r_ 1069)] ++ [(.int 1036 0), (.int 0 0), (r_ 1076), (.int 1045 0), (.int 0 0), (r_ 1081), (.int 1047 0), (.int 0 0), (r_ 1086), (.int 1055 0), (.int 0 0), (r_ 1091), (.int 1062 0), (.int 0 0), (r_ 1096), (.int 1065 0), (.int 0 0), (r_ 1101), (.int 1070 0), (.int 0 0), (r_ 1106), (.int 1073 0), (.int 0 0), (r_ 1111), (.int 1086 0), (.int 0 0), (r_ 1118), (.int 1088 0), (.int 0 0), (r_ 1123)] ++ [(.int 1095 0), (.int 0 0), (r_ 1130), (.int 1098 0), (.int 0 0), (r_ 1137), (.int 1108 0), (.int 0 0), (r_ 1142), (.int 1116 0), (.int 0 0), (r_ 1151), (.int 1118 0), (.int 0 0), (r_ 1158), (.int 1120 0), (.int 0 0), (r_ 1165), (.int 1134 0), (.int 0 0), (r_ 1172), (.int 1138 0), (.int 0 0), (r_ 1177), (.int 1149 0), (.int 0 0), (r_ 1184), (.int 1154 0), (.int 0 0), (r_ 1189)] ++ [(.int 1156 0), (.int 0 0), (r_ 1194), (.int 1165 0), (.int 0 0), (r_ 1201), (.int 1170 0), (.int 0 0), (r_ 1206), (.int 1172 0), (.int 0 0), (r_ 1213), (.int 1179 0), (.int 0 0), (r_ 1218), (.int 1190 0), (.int 0 0), (r_ 1223), (.int 1198 0), (.int 0 0), (r_ 1230), (.int 1204 0), (.int 0 0), (r_ 1235)]))), a_ []⟩),
  (935, ⟨(.type "tuple"), none, (.seq (a_ []) 0), a_ []⟩),
  (936, ⟨n_, none, (.fields (a_ [])), a_ []⟩),
  (937, ⟨(.type "tuple"), none, (.seq (a_ ([(s_ "graph" 1455), (s_ "finder" 1456), (s_ "part" 1457), (s_ "edge" 1458)])) 0), a_ []⟩),
  (938, ⟨(.type "tuple"), none, (.seq (a_ []) 0), a_ []⟩),
  (939, ⟨n_, none, (f_ (top 140) "least_part" "least_part" 0 n_ n_ n_ n_ none n_ n_ 0), a_ []⟩),
  (940, ⟨(.type "code"), none, (.fields (a_ ([(s_ "least_part" 1452), (s_ "least_part" 1453), (s_ "/claim/cut.py" 1454), (.int 884 0), (.int 2 0), (.int 0 0), (.int 0 0), (.int 3 0), (r_ 935), (.bool true), (.int 181 0), (r_ 936), n_, (r_ 937), (r_ 938), (r_ 939), (.int 1459 0), (.int 884 0), (s_ "/claim/cut.py" 1460)]))), a_ []⟩),
  (941, ⟨(.type "function"), none, (f_ (top 140) "least_part" "least_part" 3 n_ n_ n_ (s_ "trellis.drawers" 1315) none (r_ 940) n_ 0), a_ []⟩),
  (942, ⟨(.type "tuple"), none, (.seq (a_ []) 0), a_ []⟩),
  (943, ⟨n_, none, (.fields (a_ [])), a_ []⟩),
  (944, ⟨n_, none, (f_ (top 141) "lines_between" "lines_between" 0 n_ n_ n_ n_ none n_ n_ 0), a_ []⟩),
  (945, ⟨(.type "code"), none, (.fields (a_ ([(s_ "lines_between" 1462), (s_ "lines_between" 1463), (s_ "/claim/cut.py" 1464), (.int 890 0), (.int 2 0), (.int 0 0), (.int 0 0), (.int 3 0), (r_ 942), (.bool true), (.int 181 0), (r_ 943), n_, n_, n_, (r_ 944), (.int 1465 0), (.int 890 0), (s_ "/claim/cut.py" 1466)]))), a_ []⟩),
  (946, ⟨(.type "function"), none, (f_ (top 141) "lines_between" "lines_between" 3 n_ n_ n_ (s_ "trellis.drawers" 1315) none (r_ 945) n_ 0), a_ []⟩),
  (947, ⟨(.type "tuple"), none, (.seq (a_ []) 0), a_ []⟩),
  (948, ⟨n_, none, (.fields (a_ [])), a_ []⟩),
  (949, ⟨n_, none, (f_ (top 142) "star" "star" 0 n_ n_ n_ n_ none n_ n_ 0), a_ []⟩),
  (950, ⟨(.type "code"), none, (.fields (a_ ([(s_ "star" 1468), (s_ "star" 1469), (s_ "/claim/cut.py" 1470), (.int 899 0), (.int 4 0), (.int 0 0), (.int 0 0), (.int 3 0), (r_ 947), (.bool true), (.int 181 0), (r_ 948), n_, n_, n_, (r_ 949), (.int 1471 0), (.int 899 0), (s_ "/claim/cut.py" 1472)]))), a_ []⟩),
  (951, ⟨(.type "function"), none, (f_ (top 142) "star" "star" 3 n_ n_ n_ (s_ "trellis.drawers" 1315) none (r_ 950) n_ 0), a_ []⟩),
  (952, ⟨(.type "tuple"), none, (.seq (a_ []) 0), a_ []⟩),
  (953, ⟨n_, none, (.fields (a_ [])), a_ []⟩),
  (954, ⟨n_, none, (f_ (top 143) "sided" "sided" 0 n_ n_ n_ n_ none n_ n_ 0), a_ []⟩),
  (955, ⟨(.type "code"), none, (.fields (a_ ([(s_ "sided" 1474), (s_ "sided" 1475), (s_ "/claim/cut.py" 1476), (.int 902 0), (.int 2 0), (.int 0 0), (.int 0 0), (.int 3 0), (r_ 952), (.bool true), (.int 181 0), (r_ 953), n_, n_, n_, (r_ 954), (.int 1477 0), (.int 902 0), (s_ "/claim/cut.py" 1478)]))), a_ []⟩),
  (956, ⟨(.type "function"), none, (f_ (top 143) "sided" "sided" 3 n_ n_ n_ (s_ "trellis.drawers" 1315) none (r_ 955) n_ 0), a_ []⟩),
  (957, ⟨(.type "tuple"), none, (.seq (a_ []) 0), a_ []⟩)]
def nw3_1 (w : World) : List (Nat × Obj) := [
  (958, ⟨n_, none, (.fields (a_ [])), a_ []⟩),
  (959, ⟨n_, none, (f_ (top 144) "decide_planar" "decide_planar" 0 n_ n_ n_ n_ none n_ n_ 0), a_ []⟩),
  (960, ⟨(.type "code"), none, (.fields (a_ ([(s_ "decide_planar" 1480), (s_ "decide_planar" 1481), (s_ "/claim/cut.py" 1482), (.int 906 0), (.int 1 0), (.int 0 0), (.int 0 0), (.int 3 0), (r_ 957), (.bool true), (.int 181 0), (r_ 958), n_, n_, n_, (r_ 959), (.int 1483 0), (.int 906 0), (s_ "/claim/cut.py" 1484)]))), a_ []⟩),
  (961, ⟨(.type "function"), none, (f_ (top 144) "decide_planar" "decide_planar" 3 n_ n_ n_ (s_ "trellis.drawers" 1315) none (r_ 960) n_ 0), a_ []⟩),
  (962, ⟨(.type "tuple"), none, (.seq (a_ []) 0), a_ []⟩),
  (963, ⟨n_, none, (.fields (a_ [])), a_ []⟩),
  (964, ⟨n_, none, (f_ (top 145) "decide_outerplanar" "decide_outerplanar" 0 n_ n_ n_ n_ none n_ n_ 0), a_ []⟩),
  (965, ⟨(.type "code"), none, (.fields (a_ ([(s_ "decide_outerplanar" 1486), (s_ "decide_outerplanar" 1487), (s_ "/claim/cut.py" 1488), (.int 915 0), (.int 1 0), (.int 0 0), (.int 0 0), (.int 3 0), (r_ 962), (.bool true), (.int 181 0), (r_ 963), n_, n_, n_, (r_ 964), (.int 1489 0), (.int 915 0), (s_ "/claim/cut.py" 1490)]))), a_ []⟩),
  (966, ⟨(.type "function"), none, (f_ (top 145) "decide_outerplanar" "decide_outerplanar" 3 n_ n_ n_ (s_ "trellis.drawers" 1315) none (r_ 965) n_ 0), a_ []⟩),
  (967, ⟨(.type "tuple"), none, (.seq (a_ []) 0), a_ []⟩),
  (968, ⟨n_, none, (.fields (a_ [])), a_ []⟩),
  (969, ⟨n_, none, (f_ (top 146) "two_star" "two_star" 0 n_ n_ n_ n_ none n_ n_ 0), a_ []⟩),
  (970, ⟨(.type "code"), none, (.fields (a_ ([(s_ "two_star" 1492), (s_ "two_star" 1493), (s_ "/claim/cut.py" 1494), (.int 924 0), (.int 2 0), (.int 0 0), (.int 0 0), (.int 3 0), (r_ 967), (.bool true), (.int 181 0), (r_ 968), n_, n_, n_, (r_ 969), (.int 1495 0), (.int 924 0), (s_ "/claim/cut.py" 1496)]))), a_ []⟩),
  (971, ⟨(.type "function"), none, (f_ (top 146) "two_star" "two_star" 3 n_ n_ n_ (s_ "trellis.drawers" 1315) none (r_ 970) n_ 0), a_ []⟩),
  (972, ⟨(.type "tuple"), none, (.seq (a_ []) 0), a_ []⟩),
  (973, ⟨n_, none, (.fields (a_ [])), a_ []⟩),
  (974, ⟨(.type "tuple"), none, (.seq (a_ ([(s_ "value" 1503), (s_ "many" 1504), (s_ "link" 1505)])) 0), a_ []⟩),
  (975, ⟨(.type "tuple"), none, (.seq (a_ []) 0), a_ []⟩),
  (976, ⟨n_, none, (f_ (top 148) "are_links" "are_links" 0 n_ n_ n_ n_ none n_ n_ 0), a_ []⟩),
  (977, ⟨(.type "code"), none, (.fields (a_ ([(s_ "are_links" 1500), (s_ "are_links" 1501), (s_ "/claim/cut.py" 1502), (.int 936 0), (.int 2 0), (.int 0 0), (.int 0 0), (.int 3 0), (r_ 972), (.bool true), (.int 181 0), (r_ 973), n_, (r_ 974), (r_ 975), (r_ 976), (.int 1506 0), (.int 936 0), (s_ "/claim/cut.py" 1507)]))), a_ []⟩),
  (978, ⟨(.type "function"), none, (f_ (top 148) "are_links" "are_links" 3 n_ n_ n_ (s_ "trellis.bags" 1498) none (r_ 977) n_ 0), a_ []⟩),
  (979, ⟨(.type "tuple"), none, (.seq (a_ []) 0), a_ []⟩),
  (980, ⟨n_, none, (.fields (a_ [])), a_ []⟩),
  (981, ⟨n_, none, (f_ (top 149) "is_decomposition" "is_decomposition" 0 n_ n_ n_ n_ none n_ n_ 0), a_ []⟩),
  (982, ⟨(.type "code"), none, (.fields (a_ ([(s_ "is_decomposition" 1509), (s_ "is_decomposition" 1510), (s_ "/claim/cut.py" 1511), (.int 943 0), (.int 2 0), (.int 0 0), (.int 0 0), (.int 3 0), (r_ 979), (.bool true), (.int 181 0), (r_ 980), n_, n_, n_, (r_ 981), (.int 1512 0), (.int 943 0), (s_ "/claim/cut.py" 1513)]))), a_ []⟩)]
def nw3_2 (w : World) : List (Nat × Obj) := [
  (983, ⟨(.type "function"), none, (f_ (top 149) "is_decomposition" "is_decomposition" 3 n_ n_ n_ (s_ "trellis.bags" 1498) none (r_ 982) n_ 0), a_ []⟩),
  (984, ⟨(.type "tuple"), none, (.seq (a_ []) 0), a_ []⟩),
  (985, ⟨n_, none, (.fields (a_ [])), a_ []⟩),
  (986, ⟨n_, none, (f_ (top 150) "width_of" "width_of" 0 n_ n_ n_ n_ none n_ n_ 0), a_ []⟩),
  (987, ⟨(.type "code"), none, (.fields (a_ ([(s_ "width_of" 1515), (s_ "width_of" 1516), (s_ "/claim/cut.py" 1517), (.int 957 0), (.int 1 0), (.int 0 0), (.int 0 0), (.int 3 0), (r_ 984), (.bool true), (.int 181 0), (r_ 985), n_, n_, n_, (r_ 986), (.int 1518 0), (.int 957 0), (s_ "/claim/cut.py" 1519)]))), a_ []⟩),
  (988, ⟨(.type "function"), none, (f_ (top 150) "width_of" "width_of" 3 n_ n_ n_ (s_ "trellis.bags" 1498) none (r_ 987) n_ 0), a_ []⟩),
  (989, ⟨(.type "tuple"), none, (.seq (a_ []) 0), a_ []⟩),
  (990, ⟨n_, none, (.fields (a_ [])), a_ []⟩),
  (991, ⟨n_, none, (f_ (top 151) "filled" "filled" 0 n_ n_ n_ n_ none n_ n_ 0), a_ []⟩),
  (992, ⟨(.type "code"), none, (.fields (a_ ([(s_ "filled" 1521), (s_ "filled" 1522), (s_ "/claim/cut.py" 1523), (.int 959 0), (.int 2 0), (.int 0 0), (.int 0 0), (.int 3 0), (r_ 989), (.bool true), (.int 181 0), (r_ 990), n_, n_, n_, (r_ 991), (.int 1524 0), (.int 959 0), (s_ "/claim/cut.py" 1525)]))), a_ []⟩),
  (993, ⟨(.type "function"), none, (f_ (top 151) "filled" "filled" 3 n_ n_ n_ (s_ "trellis.bags" 1498) none (r_ 992) n_ 0), a_ []⟩),
  (994, ⟨(.type "tuple"), none, (.seq (a_ []) 0), a_ []⟩),
  (995, ⟨n_, none, (.fields (a_ [])), a_ []⟩),
  (996, ⟨(.type "tuple"), none, (.seq (a_ ([(s_ "graph" 1530), (s_ "order" 1531), (s_ "rows" 1532), (s_ "bags" 1533), (s_ "links" 1534), (s_ "k" 1535), (s_ "v" 1536), (s_ "later" 1537)])) 0), a_ []⟩),
  (997, ⟨(.type "tuple"), none, (.seq (a_ []) 0), a_ []⟩),
  (998, ⟨n_, none, (f_ (top 152) "from_order" "from_order" 0 n_ n_ n_ n_ none n_ n_ 0), a_ []⟩),
  (999, ⟨(.type "code"), none, (.fields (a_ ([(s_ "from_order" 1527), (s_ "from_order" 1528), (s_ "/claim/cut.py" 1529), (.int 968 0), (.int 2 0), (.int 0 0), (.int 0 0), (.int 3 0), (r_ 994), (.bool true), (.int 181 0), (r_ 995), n_, (r_ 996), (r_ 997), (r_ 998), (.int 1538 0), (.int 968 0), (s_ "/claim/cut.py" 1539)]))), a_ []⟩),
  (1000, ⟨(.type "function"), none, (f_ (top 152) "from_order" "from_order" 3 n_ n_ n_ (s_ "trellis.bags" 1498) none (r_ 999) n_ 0), a_ []⟩),
  (1001, ⟨(.type "tuple"), none, (.seq (a_ []) 0), a_ []⟩),
  (1002, ⟨n_, none, (.fields (a_ [])), a_ []⟩),
  (1003, ⟨n_, none, (f_ (top 153) "order_width" "order_width" 0 n_ n_ n_ n_ none n_ n_ 0), a_ []⟩),
  (1004, ⟨(.type "code"), none, (.fields (a_ ([(s_ "order_width" 1541), (s_ "order_width" 1542), (s_ "/claim/cut.py" 1543), (.int 979 0), (.int 2 0), (.int 0 0), (.int 0 0), (.int 3 0), (r_ 1001), (.bool true), (.int 181 0), (r_ 1002), n_, n_, n_, (r_ 1003), (.int 1544 0), (.int 979 0), (s_ "/claim/cut.py" 1545)]))), a_ []⟩),
  (1005, ⟨(.type "function"), none, (f_ (top 153) "order_width" "order_width" 3 n_ n_ n_ (s_ "trellis.bags" 1498) none (r_ 1004) n_ 0), a_ []⟩),
  (1006, ⟨(.type "tuple"), none, (.seq (a_ []) 0), a_ []⟩),
  (1007, ⟨n_, none, (.fields (a_ [])), a_ []⟩)]
def nw3_3 (w : World) : List (Nat × Obj) := [
  (1008, ⟨n_, none, (f_ (top 154) "touch" "touch" 0 n_ n_ n_ n_ none n_ n_ 0), a_ []⟩),
  (1009, ⟨(.type "code"), none, (.fields (a_ ([(s_ "touch" 1547), (s_ "touch" 1548), (s_ "/claim/cut.py" 1549), (.int 981 0), (.int 3 0), (.int 0 0), (.int 0 0), (.int 3 0), (r_ 1006), (.bool true), (.int 181 0), (r_ 1007), n_, n_, n_, (r_ 1008), (.int 1550 0), (.int 981 0), (s_ "/claim/cut.py" 1551)]))), a_ []⟩),
  (1010, ⟨(.type "function"), none, (f_ (top 154) "touch" "touch" 3 n_ n_ n_ (s_ "trellis.bags" 1498) none (r_ 1009) n_ 0), a_ []⟩),
  (1011, ⟨(.type "tuple"), none, (.seq (a_ []) 0), a_ []⟩),
  (1012, ⟨n_, none, (.fields (a_ [])), a_ []⟩),
  (1013, ⟨n_, none, (f_ (top 155) "hits" "hits" 0 n_ n_ n_ n_ none n_ n_ 0), a_ []⟩),
  (1014, ⟨(.type "code"), none, (.fields (a_ ([(s_ "hits" 1553), (s_ "hits" 1554), (s_ "/claim/cut.py" 1555), (.int 986 0), (.int 2 0), (.int 0 0), (.int 0 0), (.int 3 0), (r_ 1011), (.bool true), (.int 181 0), (r_ 1012), n_, n_, n_, (r_ 1013), (.int 1556 0), (.int 986 0), (s_ "/claim/cut.py" 1557)]))), a_ []⟩),
  (1015, ⟨(.type "function"), none, (f_ (top 155) "hits" "hits" 3 n_ n_ n_ (s_ "trellis.bags" 1498) none (r_ 1014) n_ 0), a_ []⟩),
  (1016, ⟨(.type "tuple"), none, (.seq (a_ []) 0), a_ []⟩),
  (1017, ⟨n_, none, (.fields (a_ [])), a_ []⟩),
  (1018, ⟨n_, none, (f_ (top 156) "sets_of" "sets_of" 0 n_ n_ n_ n_ none n_ n_ 0), a_ []⟩),
  (1019, ⟨(.type "code"), none, (.fields (a_ ([(s_ "sets_of" 1559), (s_ "sets_of" 1560), (s_ "/claim/cut.py" 1561), (.int 988 0), (.int 2 0), (.int 0 0), (.int 0 0), (.int 3 0), (r_ 1016), (.bool true), (.int 181 0), (r_ 1017), n_, n_, n_, (r_ 1018), (.int 1562 0), (.int 988 0), (s_ "/claim/cut.py" 1563)]))), a_ []⟩),
  (1020, ⟨(.type "function"), none, (f_ (top 156) "sets_of" "sets_of" 3 n_ n_ n_ (s_ "trellis.bags" 1498) none (r_ 1019) n_ 0), a_ []⟩),
  (1021, ⟨(.type "tuple"), none, (.seq (a_ []) 0), a_ []⟩),
  (1022, ⟨n_, none, (.fields (a_ [])), a_ []⟩),
  (1023, ⟨(.type "tuple"), none, (.seq (a_ ([(s_ "graph" 1568), (s_ "bramble" 1569), (s_ "size" 1570), (s_ "members" 1571)])) 0), a_ []⟩),
  (1024, ⟨(.type "tuple"), none, (.seq (a_ []) 0), a_ []⟩),
  (1025, ⟨n_, none, (f_ (top 157) "hitting_set" "hitting_set" 0 n_ n_ n_ n_ none n_ n_ 0), a_ []⟩),
  (1026, ⟨(.type "code"), none, (.fields (a_ ([(s_ "hitting_set" 1565), (s_ "hitting_set" 1566), (s_ "/claim/cut.py" 1567), (.int 995 0), (.int 3 0), (.int 0 0), (.int 0 0), (.int 3 0), (r_ 1021), (.bool true), (.int 181 0), (r_ 1022), n_, (r_ 1023), (r_ 1024), (r_ 1025), (.int 1572 0), (.int 995 0), (s_ "/claim/cut.py" 1573)]))), a_ []⟩),
  (1027, ⟨(.type "function"), none, (f_ (top 157) "hitting_set" "hitting_set" 3 n_ n_ n_ (s_ "trellis.bags" 1498) none (r_ 1026) n_ 0), a_ []⟩),
  (1028, ⟨(.type "tuple"), none, (.seq (a_ []) 0), a_ []⟩),
  (1029, ⟨n_, none, (.fields (a_ [])), a_ []⟩),
  (1030, ⟨n_, none, (f_ (top 158) "is_bramble" "is_bramble" 0 n_ n_ n_ n_ none n_ n_ 0), a_ []⟩),
  (1031, ⟨(.type "code"), none, (.fields (a_ ([(s_ "is_bramble" 1575), (s_ "is_bramble" 1576), (s_ "/claim/cut.py" 1577), (.int 1000 0), (.int 2 0), (.int 0 0), (.int 0 0), (.int 3 0), (r_ 1028), (.bool true), (.int 181 0), (r_ 1029), n_, n_, n_, (r_ 1030), (.int 1578 0), (.int 1000 0), (s_ "/claim/cut.py" 1579)]))), a_ []⟩),
  (1032, ⟨(.type "function"), none, (f_ (top 158) "is_bramble" "is_bramble" 3 n_ n_ n_ (s_ "trellis.bags" 1498) none (r_ 1031) n_ 0), a_ []⟩)]
def nw3_4 (w : World) : List (Nat × Obj) := [
  (1033, ⟨(.type "tuple"), none, (.seq (a_ []) 0), a_ []⟩),
  (1034, ⟨n_, none, (.fields (a_ [])), a_ []⟩),
  (1035, ⟨(.type "tuple"), none, (.seq (a_ ([(s_ "graph" 1584), (s_ "k" 1585), (s_ "answer" 1586), (s_ "data" 1587)])) 0), a_ []⟩),
  (1036, ⟨(.type "tuple"), none, (.seq (a_ []) 0), a_ []⟩),
  (1037, ⟨n_, none, (f_ (top 159) "check_width" "check_width" 0 n_ n_ n_ n_ none n_ n_ 0), a_ []⟩),
  (1038, ⟨(.type "code"), none, (.fields (a_ ([(s_ "check_width" 1581), (s_ "check_width" 1582), (s_ "/claim/cut.py" 1583), (.int 1007 0), (.int 4 0), (.int 0 0), (.int 0 0), (.int 3 0), (r_ 1033), (.bool true), (.int 181 0), (r_ 1034), n_, (r_ 1035), (r_ 1036), (r_ 1037), (.int 1588 0), (.int 1007 0), (s_ "/claim/cut.py" 1589)]))), a_ []⟩),
  (1039, ⟨(.type "function"), none, (f_ (top 159) "check_width" "check_width" 3 n_ n_ n_ (s_ "trellis.bags" 1498) none (r_ 1038) n_ 0), a_ []⟩),
  (1040, ⟨(.type "tuple"), none, (.seq (a_ []) 0), a_ []⟩),
  (1041, ⟨n_, none, (.fields (a_ [])), a_ []⟩),
  (1042, ⟨n_, none, (f_ (top 161) "best_matching" "best_matching" 0 n_ n_ n_ n_ none n_ n_ 0), a_ []⟩),
  (1043, ⟨(.type "code"), none, (.fields (a_ ([(s_ "best_matching" 1593), (s_ "best_matching" 1594), (s_ "/claim/cut.py" 1595), (.int 1012 0), (.int 1 0), (.int 0 0), (.int 0 0), (.int 3 0), (r_ 1040), (.bool true), (.int 181 0), (r_ 1041), n_, n_, n_, (r_ 1042), (.int 1596 0), (.int 1012 0), (s_ "/claim/cut.py" 1597)]))), a_ []⟩),
  (1044, ⟨(.type "function"), none, (f_ (top 161) "best_matching" "best_matching" 3 n_ n_ n_ (s_ "trellis.matchings" 1591) none (r_ 1043) n_ 0), a_ []⟩),
  (1045, ⟨(.type "tuple"), none, (.seq (a_ []) 0), a_ []⟩),
  (1046, ⟨n_, none, (.fields (a_ [])), a_ []⟩),
  (1047, ⟨(.type "tuple"), none, (.seq (a_ ([(s_ "graph" 1602)])) 0), a_ []⟩),
  (1048, ⟨(.type "tuple"), none, (.seq (a_ []) 0), a_ []⟩),
  (1049, ⟨n_, none, (f_ (top 162) "largest_matching" "largest_matching" 0 n_ n_ n_ n_ none n_ n_ 0), a_ []⟩),
  (1050, ⟨(.type "code"), none, (.fields (a_ ([(s_ "largest_matching" 1599), (s_ "largest_matching" 1600), (s_ "/claim/cut.py" 1601), (.int 1020 0), (.int 1 0), (.int 0 0), (.int 0 0), (.int 3 0), (r_ 1045), (.bool true), (.int 181 0), (r_ 1046), n_, (r_ 1047), (r_ 1048), (r_ 1049), (.int 1603 0), (.int 1020 0), (s_ "/claim/cut.py" 1604)]))), a_ []⟩),
  (1051, ⟨(.type "function"), none, (f_ (top 162) "largest_matching" "largest_matching" 3 n_ n_ n_ (s_ "trellis.matchings" 1591) none (r_ 1050) n_ 0), a_ []⟩),
  (1052, ⟨(.type "tuple"), none, (.seq (a_ []) 0), a_ []⟩),
  (1053, ⟨n_, none, (.fields (a_ [])), a_ []⟩),
  (1054, ⟨(.type "tuple"), none, (.seq (a_ ([(s_ "graph" 1609), (s_ "most" 1610), (s_ "size" 1611), (s_ "members" 1612)])) 0), a_ []⟩),
  (1055, ⟨(.type "tuple"), none, (.seq (a_ []) 0), a_ []⟩),
  (1056, ⟨n_, none, (f_ (top 163) "barrier" "barrier" 0 n_ n_ n_ n_ none n_ n_ 0), a_ []⟩),
  (1057, ⟨(.type "code"), none, (.fields (a_ ([(s_ "barrier" 1606), (s_ "barrier" 1607), (s_ "/claim/cut.py" 1608), (.int 1022 0), (.int 1 0), (.int 0 0), (.int 0 0), (.int 3 0), (r_ 1052), (.bool true), (.int 181 0), (r_ 1053), n_, (r_ 1054), (r_ 1055), (r_ 1056), (.int 1613 0), (.int 1022 0), (s_ "/claim/cut.py" 1614)]))), a_ []⟩)]
def nw3_5 (w : World) : List (Nat × Obj) := [
  (1058, ⟨(.type "function"), none, (f_ (top 163) "barrier" "barrier" 3 n_ n_ n_ (s_ "trellis.matchings" 1591) none (r_ 1057) n_ 0), a_ []⟩),
  (1059, ⟨(.type "tuple"), none, (.seq (a_ []) 0), a_ []⟩),
  (1060, ⟨n_, none, (.fields (a_ [])), a_ []⟩),
  (1061, ⟨(.type "tuple"), none, (.seq (a_ ([(s_ "graph" 1619), (s_ "k" 1620), (s_ "found" 1621)])) 0), a_ []⟩),
  (1062, ⟨(.type "tuple"), none, (.seq (a_ []) 0), a_ []⟩),
  (1063, ⟨n_, none, (f_ (top 164) "decide_matching" "decide_matching" 0 n_ n_ n_ n_ none n_ n_ 0), a_ []⟩),
  (1064, ⟨(.type "code"), none, (.fields (a_ ([(s_ "decide_matching" 1616), (s_ "decide_matching" 1617), (s_ "/claim/cut.py" 1618), (.int 1029 0), (.int 2 0), (.int 0 0), (.int 0 0), (.int 3 0), (r_ 1059), (.bool true), (.int 181 0), (r_ 1060), n_, (r_ 1061), (r_ 1062), (r_ 1063), (.int 1622 0), (.int 1029 0), (s_ "/claim/cut.py" 1623)]))), a_ []⟩),
  (1065, ⟨(.type "function"), none, (f_ (top 164) "decide_matching" "decide_matching" 3 n_ n_ n_ (s_ "trellis.matchings" 1591) none (r_ 1064) n_ 0), a_ []⟩),
  (1066, ⟨(.type "tuple"), none, (.seq (a_ []) 0), a_ []⟩),
  (1067, ⟨n_, none, (.fields (a_ [])), a_ []⟩),
  (1068, ⟨n_, none, (f_ (top 166) "splits" "splits" 0 n_ n_ n_ n_ none n_ n_ 0), a_ []⟩),
  (1069, ⟨(.type "code"), none, (.fields (a_ ([(s_ "splits" 1627), (s_ "splits" 1628), (s_ "/claim/cut.py" 1629), (.int 1033 0), (.int 3 0), (.int 0 0), (.int 0 0), (.int 3 0), (r_ 1066), (.bool true), (.int 181 0), (r_ 1067), n_, n_, n_, (r_ 1068), (.int 1630 0), (.int 1033 0), (s_ "/claim/cut.py" 1631)]))), a_ []⟩),
  (1070, ⟨(.type "function"), none, (f_ (top 166) "splits" "splits" 3 n_ n_ n_ (s_ "trellis.modules" 1625) none (r_ 1069) n_ 0), a_ []⟩),
  (1071, ⟨(.type "tuple"), none, (.seq (a_ []) 0), a_ []⟩),
  (1072, ⟨n_, none, (.fields (a_ [])), a_ []⟩),
  (1073, ⟨(.type "tuple"), none, (.seq (a_ ([(s_ "graph" 1636), (s_ "pair" 1637), (s_ "value" 1638), (s_ "known" 1639), (s_ "v" 1640)])) 0), a_ []⟩),
  (1074, ⟨(.type "tuple"), none, (.seq (a_ []) 0), a_ []⟩),
  (1075, ⟨n_, none, (f_ (top 167) "is_growing" "is_growing" 0 n_ n_ n_ n_ none n_ n_ 0), a_ []⟩),
  (1076, ⟨(.type "code"), none, (.fields (a_ ([(s_ "is_growing" 1633), (s_ "is_growing" 1634), (s_ "/claim/cut.py" 1635), (.int 1036 0), (.int 3 0), (.int 0 0), (.int 0 0), (.int 3 0), (r_ 1071), (.bool true), (.int 181 0), (r_ 1072), n_, (r_ 1073), (r_ 1074), (r_ 1075), (.int 1641 0), (.int 1036 0), (s_ "/claim/cut.py" 1642)]))), a_ []⟩),
  (1077, ⟨(.type "function"), none, (f_ (top 167) "is_growing" "is_growing" 3 n_ n_ n_ (s_ "trellis.modules" 1625) none (r_ 1076) n_ 0), a_ []⟩),
  (1078, ⟨(.type "tuple"), none, (.seq (a_ []) 0), a_ []⟩),
  (1079, ⟨n_, none, (.fields (a_ [])), a_ []⟩),
  (1080, ⟨n_, none, (f_ (top 168) "is_module" "is_module" 0 n_ n_ n_ n_ none n_ n_ 0), a_ []⟩),
  (1081, ⟨(.type "code"), none, (.fields (a_ ([(s_ "is_module" 1644), (s_ "is_module" 1645), (s_ "/claim/cut.py" 1646), (.int 1045 0), (.int 2 0), (.int 0 0), (.int 0 0), (.int 3 0), (r_ 1078), (.bool true), (.int 181 0), (r_ 1079), n_, n_, n_, (r_ 1080), (.int 1647 0), (.int 1045 0), (s_ "/claim/cut.py" 1648)]))), a_ []⟩),
  (1082, ⟨(.type "function"), none, (f_ (top 168) "is_module" "is_module" 3 n_ n_ n_ (s_ "trellis.modules" 1625) none (r_ 1081) n_ 0), a_ []⟩)]
def nw3_6 (w : World) : List (Nat × Obj) := [
  (1083, ⟨(.type "tuple"), none, (.seq (a_ []) 0), a_ []⟩),
  (1084, ⟨n_, none, (.fields (a_ [])), a_ []⟩),
  (1085, ⟨n_, none, (f_ (top 169) "check_prime" "check_prime" 0 n_ n_ n_ n_ none n_ n_ 0), a_ []⟩),
  (1086, ⟨(.type "code"), none, (.fields (a_ ([(s_ "check_prime" 1650), (s_ "check_prime" 1651), (s_ "/claim/cut.py" 1652), (.int 1047 0), (.int 3 0), (.int 0 0), (.int 0 0), (.int 3 0), (r_ 1083), (.bool true), (.int 181 0), (r_ 1084), n_, n_, n_, (r_ 1085), (.int 1653 0), (.int 1047 0), (s_ "/claim/cut.py" 1654)]))), a_ []⟩),
  (1087, ⟨(.type "function"), none, (f_ (top 169) "check_prime" "check_prime" 3 n_ n_ n_ (s_ "trellis.modules" 1625) none (r_ 1086) n_ 0), a_ []⟩),
  (1088, ⟨(.type "tuple"), none, (.seq (a_ []) 0), a_ []⟩),
  (1089, ⟨n_, none, (.fields (a_ [])), a_ []⟩),
  (1090, ⟨n_, none, (f_ (top 170) "least_module" "least_module" 0 n_ n_ n_ n_ none n_ n_ 0), a_ []⟩),
  (1091, ⟨(.type "code"), none, (.fields (a_ ([(s_ "least_module" 1656), (s_ "least_module" 1657), (s_ "/claim/cut.py" 1658), (.int 1055 0), (.int 2 0), (.int 0 0), (.int 0 0), (.int 3 0), (r_ 1088), (.bool true), (.int 181 0), (r_ 1089), n_, n_, n_, (r_ 1090), (.int 1659 0), (.int 1055 0), (s_ "/claim/cut.py" 1660)]))), a_ []⟩),
  (1092, ⟨(.type "function"), none, (f_ (top 170) "least_module" "least_module" 3 n_ n_ n_ (s_ "trellis.modules" 1625) none (r_ 1091) n_ 0), a_ []⟩),
  (1093, ⟨(.type "tuple"), none, (.seq (a_ []) 0), a_ []⟩),
  (1094, ⟨n_, none, (.fields (a_ [])), a_ []⟩),
  (1095, ⟨n_, none, (f_ (top 171) "overlap" "overlap" 0 n_ n_ n_ n_ none n_ n_ 0), a_ []⟩),
  (1096, ⟨(.type "code"), none, (.fields (a_ ([(s_ "overlap" 1662), (s_ "overlap" 1663), (s_ "/claim/cut.py" 1664), (.int 1062 0), (.int 2 0), (.int 0 0), (.int 0 0), (.int 3 0), (r_ 1093), (.bool true), (.int 181 0), (r_ 1094), n_, n_, n_, (r_ 1095), (.int 1665 0), (.int 1062 0), (s_ "/claim/cut.py" 1666)]))), a_ []⟩),
  (1097, ⟨(.type "function"), none, (f_ (top 171) "overlap" "overlap" 3 n_ n_ n_ (s_ "trellis.modules" 1625) none (r_ 1096) n_ 0), a_ []⟩),
  (1098, ⟨(.type "tuple"), none, (.seq (a_ []) 0), a_ []⟩),
  (1099, ⟨n_, none, (.fields (a_ [])), a_ []⟩),
  (1100, ⟨n_, none, (f_ (top 172) "strong_modules" "strong_modules" 0 n_ n_ n_ n_ none n_ n_ 0), a_ []⟩),
  (1101, ⟨(.type "code"), none, (.fields (a_ ([(s_ "strong_modules" 1668), (s_ "strong_modules" 1669), (s_ "/claim/cut.py" 1670), (.int 1065 0), (.int 1 0), (.int 0 0), (.int 0 0), (.int 3 0), (r_ 1098), (.bool true), (.int 181 0), (r_ 1099), n_, n_, n_, (r_ 1100), (.int 1671 0), (.int 1065 0), (s_ "/claim/cut.py" 1672)]))), a_ []⟩),
  (1102, ⟨(.type "function"), none, (f_ (top 172) "strong_modules" "strong_modules" 3 n_ n_ n_ (s_ "trellis.modules" 1625) none (r_ 1101) n_ 0), a_ []⟩),
  (1103, ⟨(.type "tuple"), none, (.seq (a_ []) 0), a_ []⟩),
  (1104, ⟨n_, none, (.fields (a_ [])), a_ []⟩),
  (1105, ⟨n_, none, (f_ (top 173) "largest_within" "largest_within" 0 n_ n_ n_ n_ none n_ n_ 0), a_ []⟩),
  (1106, ⟨(.type "code"), none, (.fields (a_ ([(s_ "largest_within" 1674), (s_ "largest_within" 1675), (s_ "/claim/cut.py" 1676), (.int 1070 0), (.int 2 0), (.int 0 0), (.int 0 0), (.int 3 0), (r_ 1103), (.bool true), (.int 181 0), (r_ 1104), n_, n_, n_, (r_ 1105), (.int 1677 0), (.int 1070 0), (s_ "/claim/cut.py" 1678)]))), a_ []⟩),
  (1107, ⟨(.type "function"), none, (f_ (top 173) "largest_within" "largest_within" 3 n_ n_ n_ (s_ "trellis.modules" 1625) none (r_ 1106) n_ 0), a_ []⟩)]
def nw3_7 (w : World) : List (Nat × Obj) := [
  (1108, ⟨(.type "tuple"), none, (.seq (a_ []) 0), a_ []⟩),
  (1109, ⟨n_, none, (.fields (a_ [])), a_ []⟩),
  (1110, ⟨n_, none, (f_ (top 174) "tree_of" "tree_of" 0 n_ n_ n_ n_ none n_ n_ 0), a_ []⟩),
  (1111, ⟨(.type "code"), none, (.fields (a_ ([(s_ "tree_of" 1680), (s_ "tree_of" 1681), (s_ "/claim/cut.py" 1682), (.int 1073 0), (.int 3 0), (.int 0 0), (.int 0 0), (.int 3 0), (r_ 1108), (.bool true), (.int 181 0), (r_ 1109), n_, n_, n_, (r_ 1110), (.int 1683 0), (.int 1073 0), (s_ "/claim/cut.py" 1684)]))), a_ []⟩),
  (1112, ⟨(.type "function"), none, (f_ (top 174) "tree_of" "tree_of" 3 n_ n_ n_ (s_ "trellis.modules" 1625) none (r_ 1111) n_ 0), a_ []⟩),
  (1113, ⟨(.type "tuple"), none, (.seq (a_ []) 0), a_ []⟩),
  (1114, ⟨n_, none, (.fields (a_ [])), a_ []⟩),
  (1115, ⟨(.type "tuple"), none, (.seq (a_ ([(s_ "graph" 1689)])) 0), a_ []⟩),
  (1116, ⟨(.type "tuple"), none, (.seq (a_ []) 0), a_ []⟩),
  (1117, ⟨n_, none, (f_ (top 175) "module_tree" "module_tree" 0 n_ n_ n_ n_ none n_ n_ 0), a_ []⟩),
  (1118, ⟨(.type "code"), none, (.fields (a_ ([(s_ "module_tree" 1686), (s_ "module_tree" 1687), (s_ "/claim/cut.py" 1688), (.int 1086 0), (.int 1 0), (.int 0 0), (.int 0 0), (.int 3 0), (r_ 1113), (.bool true), (.int 181 0), (r_ 1114), n_, (r_ 1115), (r_ 1116), (r_ 1117), (.int 1690 0), (.int 1086 0), (s_ "/claim/cut.py" 1691)]))), a_ []⟩),
  (1119, ⟨(.type "function"), none, (f_ (top 175) "module_tree" "module_tree" 3 n_ n_ n_ (s_ "trellis.modules" 1625) none (r_ 1118) n_ 0), a_ []⟩),
  (1120, ⟨(.type "tuple"), none, (.seq (a_ []) 0), a_ []⟩),
  (1121, ⟨n_, none, (.fields (a_ [])), a_ []⟩),
  (1122, ⟨n_, none, (f_ (top 176) "bare_paths" "bare_paths" 0 n_ n_ n_ n_ none n_ n_ 0), a_ []⟩),
  (1123, ⟨(.type "code"), none, (.fields (a_ ([(s_ "bare_paths" 1693), (s_ "bare_paths" 1694), (s_ "/claim/cut.py" 1695), (.int 1088 0), (.int 1 0), (.int 0 0), (.int 0 0), (.int 3 0), (r_ 1120), (.bool true), (.int 181 0), (r_ 1121), n_, n_, n_, (r_ 1122), (.int 1696 0), (.int 1088 0), (s_ "/claim/cut.py" 1697)]))), a_ []⟩),
  (1124, ⟨(.type "function"), none, (f_ (top 176) "bare_paths" "bare_paths" 3 n_ n_ n_ (s_ "trellis.modules" 1625) none (r_ 1123) n_ 0), a_ []⟩),
  (1125, ⟨(.type "tuple"), none, (.seq (a_ []) 0), a_ []⟩),
  (1126, ⟨n_, none, (.fields (a_ [])), a_ []⟩),
  (1127, ⟨(.type "tuple"), none, (.seq (a_ ([(s_ "graph" 1702), (s_ "paths" 1703)])) 0), a_ []⟩),
  (1128, ⟨(.type "tuple"), none, (.seq (a_ []) 0), a_ []⟩),
  (1129, ⟨n_, none, (f_ (top 177) "decide_cograph" "decide_cograph" 0 n_ n_ n_ n_ none n_ n_ 0), a_ []⟩),
  (1130, ⟨(.type "code"), none, (.fields (a_ ([(s_ "decide_cograph" 1699), (s_ "decide_cograph" 1700), (s_ "/claim/cut.py" 1701), (.int 1095 0), (.int 1 0), (.int 0 0), (.int 0 0), (.int 3 0), (r_ 1125), (.bool true), (.int 181 0), (r_ 1126), n_, (r_ 1127), (r_ 1128), (r_ 1129), (.int 1704 0), (.int 1095 0), (s_ "/claim/cut.py" 1705)]))), a_ []⟩),
  (1131, ⟨(.type "function"), none, (f_ (top 177) "decide_cograph" "decide_cograph" 3 n_ n_ n_ (s_ "trellis.modules" 1625) none (r_ 1130) n_ 0), a_ []⟩),
  (1132, ⟨(.type "tuple"), none, (.seq (a_ []) 0), a_ []⟩)]
def nw3_8 (w : World) : List (Nat × Obj) := [
  (1133, ⟨n_, none, (.fields (a_ [])), a_ []⟩),
  (1134, ⟨(.type "tuple"), none, (.seq (a_ ([(s_ "graph" 1710), (s_ "n" 1711), (s_ "rows" 1712), (s_ "u" 1713), (s_ "v" 1714), (s_ "module" 1715)])) 0), a_ []⟩),
  (1135, ⟨(.type "tuple"), none, (.seq (a_ []) 0), a_ []⟩),
  (1136, ⟨n_, none, (f_ (top 178) "decide_prime" "decide_prime" 0 n_ n_ n_ n_ none n_ n_ 0), a_ []⟩),
  (1137, ⟨(.type "code"), none, (.fields (a_ ([(s_ "decide_prime" 1707), (s_ "decide_prime" 1708), (s_ "/claim/cut.py" 1709), (.int 1098 0), (.int 1 0), (.int 0 0), (.int 0 0), (.int 3 0), (r_ 1132), (.bool true), (.int 181 0), (r_ 1133), n_, (r_ 1134), (r_ 1135), (r_ 1136), (.int 1716 0), (.int 1098 0), (s_ "/claim/cut.py" 1717)]))), a_ []⟩),
  (1138, ⟨(.type "function"), none, (f_ (top 178) "decide_prime" "decide_prime" 3 n_ n_ n_ (s_ "trellis.modules" 1625) none (r_ 1137) n_ 0), a_ []⟩),
  (1139, ⟨(.type "tuple"), none, (.seq (a_ []) 0), a_ []⟩),
  (1140, ⟨n_, none, (.fields (a_ [])), a_ []⟩),
  (1141, ⟨n_, none, (f_ (top 179) "growth" "growth" 0 n_ n_ n_ n_ none n_ n_ 0), a_ []⟩),
  (1142, ⟨(.type "code"), none, (.fields (a_ ([(s_ "growth" 1719), (s_ "growth" 1720), (s_ "/claim/cut.py" 1721), (.int 1108 0), (.int 2 0), (.int 0 0), (.int 0 0), (.int 3 0), (r_ 1139), (.bool true), (.int 181 0), (r_ 1140), n_, n_, n_, (r_ 1141), (.int 1722 0), (.int 1108 0), (s_ "/claim/cut.py" 1723)]))), a_ []⟩),
  (1143, ⟨(.type "function"), none, (f_ (top 179) "growth" "growth" 3 n_ n_ n_ (s_ "trellis.modules" 1625) none (r_ 1142) n_ 0), a_ []⟩),
  (1144, ⟨(.type "tuple"), none, (.seq (a_ ([(s_ "connected" 1727), (s_ "bipartite" 1728), (s_ "forest" 1729), (s_ "block" 1730), (s_ "chordal" 1731), (s_ "interval" 1732), (s_ "cograph" 1733), (s_ "comparability" 1734), (s_ "permutation" 1735), (s_ "prime" 1736), (s_ "planar" 1737), (s_ "outerplanar" 1738)])) 0), a_ []⟩),
  (1145, ⟨(.type "tuple"), none, (.seq (a_ ([(s_ "degenerate" 1740), (s_ "indegree" 1741), (s_ "forests" 1742), (s_ "trees" 1743), (s_ "width" 1744), (s_ "colours" 1745), (s_ "independent" 1746), (s_ "matching" 1747)])) 0), a_ []⟩),
  (1146, ⟨(.type "tuple"), none, (.seq (a_ []) 0), a_ []⟩),
  (1147, ⟨n_, none, (.fields (a_ [])), a_ []⟩),
  (1148, ⟨(.type "tuple"), none, (.seq (a_ ([(s_ "value" 1752)])) 0), a_ []⟩),
  (1149, ⟨(.type "tuple"), none, (.seq (a_ []) 0), a_ []⟩),
  (1150, ⟨n_, none, (f_ (top 183) "is_number" "is_number" 0 n_ n_ n_ n_ none n_ n_ 0), a_ []⟩),
  (1151, ⟨(.type "code"), none, (.fields (a_ ([(s_ "is_number" 1749), (s_ "is_number" 1750), (s_ "/claim/cut.py" 1751), (.int 1116 0), (.int 1 0), (.int 0 0), (.int 0 0), (.int 3 0), (r_ 1146), (.bool true), (.int 181 0), (r_ 1147), n_, (r_ 1148), (r_ 1149), (r_ 1150), (.int 1753 0), (.int 1116 0), (s_ "/claim/cut.py" 1754)]))), a_ []⟩),
  (1152, ⟨(.type "function"), none, (f_ (top 183) "is_number" "is_number" 3 n_ n_ n_ (s_ "trellis.questions" 1725) none (r_ 1151) n_ 0), a_ []⟩),
  (1153, ⟨(.type "tuple"), none, (.seq (a_ []) 0), a_ []⟩),
  (1154, ⟨n_, none, (.fields (a_ [])), a_ []⟩),
  (1155, ⟨(.type "tuple"), none, (.seq (a_ ([(s_ "graph" 1759), (s_ "value" 1760)])) 0), a_ []⟩),
  (1156, ⟨(.type "tuple"), none, (.seq (a_ []) 0), a_ []⟩),
  (1157, ⟨n_, none, (f_ (top 184) "is_vertex" "is_vertex" 0 n_ n_ n_ n_ none n_ n_ 0), a_ []⟩)]
def nw3_9 (w : World) : List (Nat × Obj) := [
  (1158, ⟨(.type "code"), none, (.fields (a_ ([(s_ "is_vertex" 1756), (s_ "is_vertex" 1757), (s_ "/claim/cut.py" 1758), (.int 1118 0), (.int 2 0), (.int 0 0), (.int 0 0), (.int 3 0), (r_ 1153), (.bool true), (.int 181 0), (r_ 1154), n_, (r_ 1155), (r_ 1156), (r_ 1157), (.int 1761 0), (.int 1118 0), (s_ "/claim/cut.py" 1762)]))), a_ []⟩),
  (1159, ⟨(.type "function"), none, (f_ (top 184) "is_vertex" "is_vertex" 3 n_ n_ n_ (s_ "trellis.questions" 1725) none (r_ 1158) n_ 0), a_ []⟩),
  (1160, ⟨(.type "tuple"), none, (.seq (a_ []) 0), a_ []⟩),
  (1161, ⟨n_, none, (.fields (a_ [])), a_ []⟩),
  (1162, ⟨(.type "tuple"), none, (.seq (a_ ([(s_ "graph" 1767), (s_ "value" 1768), (s_ "kind" 1769), (s_ "_" 1770), (s_ "s" 1771), (s_ "t" 1772), (s_ "k" 1773)])) 0), a_ []⟩),
  (1163, ⟨(.type "tuple"), none, (.seq (a_ []) 0), a_ []⟩),
  (1164, ⟨n_, none, (f_ (top 185) "is_question" "is_question" 0 n_ n_ n_ n_ none n_ n_ 0), a_ []⟩),
  (1165, ⟨(.type "code"), none, (.fields (a_ ([(s_ "is_question" 1764), (s_ "is_question" 1765), (s_ "/claim/cut.py" 1766), (.int 1120 0), (.int 2 0), (.int 0 0), (.int 0 0), (.int 3 0), (r_ 1160), (.bool true), (.int 181 0), (r_ 1161), n_, (r_ 1162), (r_ 1163), (r_ 1164), (.int 1774 0), (.int 1120 0), (s_ "/claim/cut.py" 1775)]))), a_ []⟩),
  (1166, ⟨(.type "function"), none, (f_ (top 185) "is_question" "is_question" 3 n_ n_ n_ (s_ "trellis.questions" 1725) none (r_ 1165) n_ 0), a_ []⟩),
  (1167, ⟨(.type "tuple"), none, (.seq (a_ []) 0), a_ []⟩),
  (1168, ⟨n_, none, (.fields (a_ [])), a_ []⟩),
  (1169, ⟨(.type "tuple"), none, (.seq (a_ ([(s_ "graph" 1780), (s_ "question" 1781)])) 0), a_ []⟩),
  (1170, ⟨(.type "tuple"), none, (.seq (a_ []) 0), a_ []⟩),
  (1171, ⟨n_, none, (f_ (top 186) "check_question" "check_question" 0 n_ n_ n_ n_ none n_ n_ 0), a_ []⟩),
  (1172, ⟨(.type "code"), none, (.fields (a_ ([(s_ "check_question" 1777), (s_ "check_question" 1778), (s_ "/claim/cut.py" 1779), (.int 1134 0), (.int 2 0), (.int 0 0), (.int 0 0), (.int 3 0), (r_ 1167), (.bool true), (.int 181 0), (r_ 1168), n_, (r_ 1169), (r_ 1170), (r_ 1171), (.int 1782 0), (.int 1134 0), (s_ "/claim/cut.py" 1783)]))), a_ []⟩),
  (1173, ⟨(.type "function"), none, (f_ (top 186) "check_question" "check_question" 3 n_ n_ n_ (s_ "trellis.questions" 1725) none (r_ 1172) n_ 0), a_ []⟩),
  (1174, ⟨(.type "tuple"), none, (.seq (a_ []) 0), a_ []⟩),
  (1175, ⟨n_, none, (.fields (a_ [])), a_ []⟩),
  (1176, ⟨n_, none, (f_ (top 188) "colouring" "colouring" 0 n_ n_ n_ n_ none n_ n_ 0), a_ []⟩),
  (1177, ⟨(.type "code"), none, (.fields (a_ ([(s_ "colouring" 1787), (s_ "colouring" 1788), (s_ "/claim/cut.py" 1789), (.int 1138 0), (.int 3 0), (.int 0 0), (.int 0 0), (.int 3 0), (r_ 1174), (.bool true), (.int 181 0), (r_ 1175), n_, n_, n_, (r_ 1176), (.int 1790 0), (.int 1138 0), (s_ "/claim/cut.py" 1791)]))), a_ []⟩),
  (1178, ⟨(.type "function"), none, (f_ (top 188) "colouring" "colouring" 3 n_ n_ n_ (s_ "trellis.searches" 1785) none (r_ 1177) n_ 0), a_ []⟩),
  (1179, ⟨(.type "tuple"), none, (.seq (a_ []) 0), a_ []⟩),
  (1180, ⟨n_, none, (.fields (a_ [])), a_ []⟩),
  (1181, ⟨(.type "tuple"), none, (.seq (a_ ([(s_ "graph" 1796), (s_ "left" 1797), (s_ "size" 1798), (s_ "members" 1799)])) 0), a_ []⟩),
  (1182, ⟨(.type "tuple"), none, (.seq (a_ []) 0), a_ []⟩)]
def nw3_10 (w : World) : List (Nat × Obj) := [
  (1183, ⟨n_, none, (f_ (top 189) "clique_in" "clique_in" 0 n_ n_ n_ n_ none n_ n_ 0), a_ []⟩),
  (1184, ⟨(.type "code"), none, (.fields (a_ ([(s_ "clique_in" 1793), (s_ "clique_in" 1794), (s_ "/claim/cut.py" 1795), (.int 1149 0), (.int 3 0), (.int 0 0), (.int 0 0), (.int 3 0), (r_ 1179), (.bool true), (.int 181 0), (r_ 1180), n_, (r_ 1181), (r_ 1182), (r_ 1183), (.int 1800 0), (.int 1149 0), (s_ "/claim/cut.py" 1801)]))), a_ []⟩),
  (1185, ⟨(.type "function"), none, (f_ (top 189) "clique_in" "clique_in" 3 n_ n_ n_ (s_ "trellis.searches" 1785) none (r_ 1184) n_ 0), a_ []⟩),
  (1186, ⟨(.type "tuple"), none, (.seq (a_ []) 0), a_ []⟩),
  (1187, ⟨n_, none, (.fields (a_ [])), a_ []⟩),
  (1188, ⟨n_, none, (f_ (top 190) "common_neighbours" "common_neighbours" 0 n_ n_ n_ n_ none n_ n_ 0), a_ []⟩),
  (1189, ⟨(.type "code"), none, (.fields (a_ ([(s_ "common_neighbours" 1803), (s_ "common_neighbours" 1804), (s_ "/claim/cut.py" 1805), (.int 1154 0), (.int 2 0), (.int 0 0), (.int 0 0), (.int 3 0), (r_ 1186), (.bool true), (.int 181 0), (r_ 1187), n_, n_, n_, (r_ 1188), (.int 1806 0), (.int 1154 0), (s_ "/claim/cut.py" 1807)]))), a_ []⟩),
  (1190, ⟨(.type "function"), none, (f_ (top 190) "common_neighbours" "common_neighbours" 3 n_ n_ n_ (s_ "trellis.searches" 1785) none (r_ 1189) n_ 0), a_ []⟩),
  (1191, ⟨(.type "tuple"), none, (.seq (a_ []) 0), a_ []⟩),
  (1192, ⟨n_, none, (.fields (a_ [])), a_ []⟩),
  (1193, ⟨n_, none, (f_ (top 191) "colour_search" "colour_search" 0 n_ n_ n_ n_ none n_ n_ 0), a_ []⟩),
  (1194, ⟨(.type "code"), none, (.fields (a_ ([(s_ "colour_search" 1809), (s_ "colour_search" 1810), (s_ "/claim/cut.py" 1811), (.int 1156 0), (.int 3 0), (.int 0 0), (.int 0 0), (.int 3 0), (r_ 1191), (.bool true), (.int 181 0), (r_ 1192), n_, n_, n_, (r_ 1193), (.int 1812 0), (.int 1156 0), (s_ "/claim/cut.py" 1813)]))), a_ []⟩),
  (1195, ⟨(.type "function"), none, (f_ (top 191) "colour_search" "colour_search" 3 n_ n_ n_ (s_ "trellis.searches" 1785) none (r_ 1194) n_ 0), a_ []⟩),
  (1196, ⟨(.type "tuple"), none, (.seq (a_ []) 0), a_ []⟩),
  (1197, ⟨n_, none, (.fields (a_ [])), a_ []⟩),
  (1198, ⟨(.type "tuple"), none, (.seq (a_ ([(s_ "graph" 1818), (s_ "k" 1819), (s_ "colours" 1820)])) 0), a_ []⟩),
  (1199, ⟨(.type "tuple"), none, (.seq (a_ []) 0), a_ []⟩),
  (1200, ⟨n_, none, (f_ (top 192) "decide_colours" "decide_colours" 0 n_ n_ n_ n_ none n_ n_ 0), a_ []⟩),
  (1201, ⟨(.type "code"), none, (.fields (a_ ([(s_ "decide_colours" 1815), (s_ "decide_colours" 1816), (s_ "/claim/cut.py" 1817), (.int 1165 0), (.int 2 0), (.int 0 0), (.int 0 0), (.int 3 0), (r_ 1196), (.bool true), (.int 181 0), (r_ 1197), n_, (r_ 1198), (r_ 1199), (r_ 1200), (.int 1821 0), (.int 1165 0), (s_ "/claim/cut.py" 1822)]))), a_ []⟩),
  (1202, ⟨(.type "function"), none, (f_ (top 192) "decide_colours" "decide_colours" 3 n_ n_ n_ (s_ "trellis.searches" 1785) none (r_ 1201) n_ 0), a_ []⟩),
  (1203, ⟨(.type "tuple"), none, (.seq (a_ []) 0), a_ []⟩),
  (1204, ⟨n_, none, (.fields (a_ [])), a_ []⟩),
  (1205, ⟨n_, none, (f_ (top 193) "is_apart" "is_apart" 0 n_ n_ n_ n_ none n_ n_ 0), a_ []⟩),
  (1206, ⟨(.type "code"), none, (.fields (a_ ([(s_ "is_apart" 1824), (s_ "is_apart" 1825), (s_ "/claim/cut.py" 1826), (.int 1170 0), (.int 2 0), (.int 0 0), (.int 0 0), (.int 3 0), (r_ 1203), (.bool true), (.int 181 0), (r_ 1204), n_, n_, n_, (r_ 1205), (.int 1827 0), (.int 1170 0), (s_ "/claim/cut.py" 1828)]))), a_ []⟩),
  (1207, ⟨(.type "function"), none, (f_ (top 193) "is_apart" "is_apart" 3 n_ n_ n_ (s_ "trellis.searches" 1785) none (r_ 1206) n_ 0), a_ []⟩)]
def nw3_11 (w : World) : List (Nat × Obj) := [
  (1208, ⟨(.type "tuple"), none, (.seq (a_ []) 0), a_ []⟩),
  (1209, ⟨n_, none, (.fields (a_ [])), a_ []⟩),
  (1210, ⟨(.type "tuple"), none, (.seq (a_ ([(s_ "graph" 1833), (s_ "size" 1834), (s_ "members" 1835)])) 0), a_ []⟩),
  (1211, ⟨(.type "tuple"), none, (.seq (a_ []) 0), a_ []⟩),
  (1212, ⟨n_, none, (f_ (top 194) "apart_set" "apart_set" 0 n_ n_ n_ n_ none n_ n_ 0), a_ []⟩),
  (1213, ⟨(.type "code"), none, (.fields (a_ ([(s_ "apart_set" 1830), (s_ "apart_set" 1831), (s_ "/claim/cut.py" 1832), (.int 1172 0), (.int 2 0), (.int 0 0), (.int 0 0), (.int 3 0), (r_ 1208), (.bool true), (.int 181 0), (r_ 1209), n_, (r_ 1210), (r_ 1211), (r_ 1212), (.int 1836 0), (.int 1172 0), (s_ "/claim/cut.py" 1837)]))), a_ []⟩),
  (1214, ⟨(.type "function"), none, (f_ (top 194) "apart_set" "apart_set" 3 n_ n_ n_ (s_ "trellis.searches" 1785) none (r_ 1213) n_ 0), a_ []⟩),
  (1215, ⟨(.type "tuple"), none, (.seq (a_ []) 0), a_ []⟩),
  (1216, ⟨n_, none, (.fields (a_ [])), a_ []⟩),
  (1217, ⟨n_, none, (f_ (top 195) "cover" "cover" 0 n_ n_ n_ n_ none n_ n_ 0), a_ []⟩),
  (1218, ⟨(.type "code"), none, (.fields (a_ ([(s_ "cover" 1839), (s_ "cover" 1840), (s_ "/claim/cut.py" 1841), (.int 1179 0), (.int 2 0), (.int 0 0), (.int 0 0), (.int 3 0), (r_ 1215), (.bool true), (.int 181 0), (r_ 1216), n_, n_, n_, (r_ 1217), (.int 1842 0), (.int 1179 0), (s_ "/claim/cut.py" 1843)]))), a_ []⟩),
  (1219, ⟨(.type "function"), none, (f_ (top 195) "cover" "cover" 3 n_ n_ n_ (s_ "trellis.searches" 1785) none (r_ 1218) n_ 0), a_ []⟩),
  (1220, ⟨(.type "tuple"), none, (.seq (a_ []) 0), a_ []⟩),
  (1221, ⟨n_, none, (.fields (a_ [])), a_ []⟩),
  (1222, ⟨n_, none, (f_ (top 196) "set_search" "set_search" 0 n_ n_ n_ n_ none n_ n_ 0), a_ []⟩),
  (1223, ⟨(.type "code"), none, (.fields (a_ ([(s_ "set_search" 1845), (s_ "set_search" 1846), (s_ "/claim/cut.py" 1847), (.int 1190 0), (.int 3 0), (.int 0 0), (.int 0 0), (.int 3 0), (r_ 1220), (.bool true), (.int 181 0), (r_ 1221), n_, n_, n_, (r_ 1222), (.int 1848 0), (.int 1190 0), (s_ "/claim/cut.py" 1849)]))), a_ []⟩),
  (1224, ⟨(.type "function"), none, (f_ (top 196) "set_search" "set_search" 3 n_ n_ n_ (s_ "trellis.searches" 1785) none (r_ 1223) n_ 0), a_ []⟩),
  (1225, ⟨(.type "tuple"), none, (.seq (a_ []) 0), a_ []⟩),
  (1226, ⟨n_, none, (.fields (a_ [])), a_ []⟩),
  (1227, ⟨(.type "tuple"), none, (.seq (a_ ([(s_ "graph" 1854), (s_ "k" 1855), (s_ "members" 1856)])) 0), a_ []⟩),
  (1228, ⟨(.type "tuple"), none, (.seq (a_ []) 0), a_ []⟩),
  (1229, ⟨n_, none, (f_ (top 197) "decide_independent" "decide_independent" 0 n_ n_ n_ n_ none n_ n_ 0), a_ []⟩),
  (1230, ⟨(.type "code"), none, (.fields (a_ ([(s_ "decide_independent" 1851), (s_ "decide_independent" 1852), (s_ "/claim/cut.py" 1853), (.int 1198 0), (.int 2 0), (.int 0 0), (.int 0 0), (.int 3 0), (r_ 1225), (.bool true), (.int 181 0), (r_ 1226), n_, (r_ 1227), (r_ 1228), (r_ 1229), (.int 1857 0), (.int 1198 0), (s_ "/claim/cut.py" 1858)]))), a_ []⟩),
  (1231, ⟨(.type "function"), none, (f_ (top 197) "decide_independent" "decide_independent" 3 n_ n_ n_ (s_ "trellis.searches" 1785) none (r_ 1230) n_ 0), a_ []⟩),
  (1232, ⟨(.type "tuple"), none, (.seq (a_ []) 0), a_ []⟩)]
def nw3_12 (w : World) : List (Nat × Obj) := [
  (1233, ⟨n_, none, (.fields (a_ [])), a_ []⟩),
  (1234, ⟨n_, none, (f_ (top 199) "check_degenerate" "check_degenerate" 0 n_ n_ n_ n_ none n_ n_ 0), a_ []⟩),
  (1235, ⟨(.type "code"), none, (.fields (a_ ([(s_ "check_degenerate" 1862), (s_ "check_degenerate" 1863), (s_ "/claim/cut.py" 1864), (.int 1204 0), (.int 4 0), (.int 0 0), (.int 0 0), (.int 3 0), (r_ 1232), (.bool true), (.int 181 0), (r_ 1233), n_, n_, n_, (r_ 1234), (.int 1865 0), (.int 1204 0), (s_ "/claim/cut.py" 1866)]))), a_ []⟩),
  (1236, ⟨(.type "function"), none, (f_ (top 199) "check_degenerate" "check_degenerate" 3 n_ n_ n_ (s_ "trellis.check_sparse" 1860) none (r_ 1235) n_ 0), a_ []⟩)]
def tr4 (w : World) : BT := insL (nw3_12 w) (insL (nw3_11 w) (insL (nw3_10 w) (insL (nw3_9 w) (insL (nw3_8 w) (insL (nw3_7 w) (insL (nw3_6 w) (insL (nw3_5 w) (insL (nw3_4 w) (insL (nw3_3 w) (insL (nw3_2 w) (insL (nw3_1 w) (insL (nw3_0 w) (tr3 w)))))))))))))
def nw4_0 (w : World) : List (Nat × Obj) := [
  (3, ⟨(.type "dict"), none, (.dict (a_ ([e_ w "__name__" 165 (s_ "law_trellis_k34_chordal_graphs" 2183), e_ w "__doc__" 166 n_, e_ w "__package__" 167 n_, e_ w "__loader__" 168 (.builtin "__main__.__loader__#opaque"), e_ w "__spec__" 169 n_, e_ w "__annotations__" 170 (r_ 6), e_ w "__builtins__" 171 (r_ 4), e_ w "__file__" 173 (s_ "/claim/cut.py" 172), e_ w "__cached__" 174 n_, e_ w "TrellisError" 206 (r_ 24), e_ w "BadGraph" 222 (r_ 37), e_ w "BadQuestion" 238 (r_ 49), e_ w "MOST_VERTICES" 242 (.int 60 241), e_ w "is_integer" 249 (r_ 58), e_ w "is_integer_tuple" 255 (r_ 63), e_ w "is_ascending" 261 (r_ 68), e_ w "is_graph" 271 (r_ 75), e_ w "pair_of" 279 (r_ 82), e_ w "made_graph" 290 (r_ 89), e_ w "are_neighbours" 299 (r_ 96), e_ w "neighbours" 305 (r_ 101), e_ w "inside" 311 (r_ 106), e_ w "part_of" 324 (r_ 113), e_ w "parts_of" 330 (r_ 118), e_ w "components" 337 (r_ 125), e_ w "is_connected" 345 (r_ 132), e_ w "complement" 351 (r_ 137), e_ w "induced" 357 (r_ 142), e_ w "renamed" 363 (r_ 147), e_ w "is_vertex_tuple" 371 (r_ 152)] ++ [e_ w "is_set" 379 (r_ 159), e_ w "is_order" 387 (r_ 166), e_ w "is_edge" 395 (r_ 173), e_ w "is_arrow" 403 (r_ 180), e_ w "is_tuple_of" 411 (r_ 187), e_ w "are_sets" 417 (r_ 192), e_ w "are_edges" 423 (r_ 197), e_ w "is_direction" 429 (r_ 202), e_ w "is_clique" 435 (r_ 207), e_ w "is_split" 443 (r_ 214), e_ w "is_small_integer" 451 (r_ 221), e_ w "is_path" 459 (r_ 226), e_ w "is_path_between" 469 (r_ 233), e_ w "is_cycle" 477 (r_ 240), e_ w "shortest_path" 492 (r_ 247), e_ w "without_edge" 498 (r_ 252), e_ w "shortest_cycle" 508 (r_ 259), e_ w "connects_all" 518 (r_ 266), e_ w "is_spanning_tree" 526 (r_ 273), e_ w "crosses" 534 (r_ 280), e_ w "check_connected" 540 (r_ 285), e_ w "check_bipartite" 546 (r_ 290), e_ w "behind" 552 (r_ 295), e_ w "check_forest" 558 (r_ 300), e_ w "are_ears" 564 (r_ 305), e_ w "check_block" 570 (r_ 310), e_ w "are_apart" 576 (r_ 315), e_ w "check_linked" 582 (r_ 320), e_ w "components_without" 588 (r_ 325), e_ w "merged" 596 (r_ 330)] ++ [e_ w "is_colour_search" 602 (r_ 335), e_ w "check_colours" 608 (r_ 340), e_ w "is_set_search" 614 (r_ 345), e_ w "check_independent" 620 (r_ 350), e_ w "matching_bound" 626 (r_ 355), e_ w "check_matching" 632 (r_ 360), e_ w "near_with_degree" 638 (r_ 365), e_ w "PairingChecker" 688 (r_ 394), e_ w "check_isomorphic" 698 (r_ 405), e_ w "fits" 706 (r_ 410), e_ w "pairings" 717 (r_ 417), e_ w "PairingFinder" 767 (r_ 446), e_ w "decide_isomorphic" 776 (r_ 457), e_ w "has_no_chord" 791 (r_ 464), e_ w "is_hole" 799 (r_ 471), e_ w "check_chordal" 805 (r_ 476), e_ w "is_interval" 812 (r_ 483), e_ w "do_meet" 820 (r_ 490), e_ w "is_asteroid" 826 (r_ 495), e_ w "check_interval" 832 (r_ 500), e_ w "forces" 845 (r_ 507), e_ w "is_chain" 851 (r_ 512), e_ w "is_transitive" 862 (r_ 519), e_ w "check_comparability" 871 (r_ 526), e_ w "check_permutation" 886 (r_ 533), e_ w "leaves_of" 896 (r_ 540), e_ w "joined_pairs" 902 (r_ 545), e_ w "check_cograph" 912 (r_ 552), e_ w "find_hole" 920 (r_ 557), e_ w "clique_order" 926 (r_ 562)] ++ [e_ w "decide_chordal" 934 (r_ 569), e_ w "largest_cliques" 940 (r_ 574), e_ w "are_together" 946 (r_ 579), e_ w "clique_row" 958 (r_ 586), e_ w "may_go_on" 964 (r_ 591), e_ w "asteroid" 980 (r_ 598), e_ w "decide_interval" 986 (r_ 603), e_ w "all_arrows" 992 (r_ 608), e_ w "forced_arrows" 998 (r_ 613), e_ w "forcing_ways" 1010 (r_ 620), e_ w "arrow_classes" 1016 (r_ 625), e_ w "find_chain" 1028 (r_ 632), e_ w "transitive_direction" 1034 (r_ 637), e_ w "decide_comparability" 1040 (r_ 642), e_ w "row_of" 1046 (r_ 647), e_ w "decide_permutation" 1052 (r_ 652), e_ w "search_tree" 1066 (r_ 659), e_ w "decide_connected" 1072 (r_ 664), e_ w "way_up" 1081 (r_ 671), e_ w "ring" 1087 (r_ 676), e_ w "decide_bipartite" 1093 (r_ 681), e_ w "stripped" 1099 (r_ 686), e_ w "decide_forest" 1108 (r_ 693), e_ w "cut_of" 1114 (r_ 698), e_ w "next_ear" 1120 (r_ 703), e_ w "decide_block" 1130 (r_ 710), e_ w "PathSystem" 1208 (r_ 753), e_ w "decide_linked" 1221 (r_ 764), e_ w "next_arrow" 1234 (r_ 771), e_ w "faces" 1240 (r_ 776)] ++ [e_ w "block_sets" 1246 (r_ 781), e_ w "blocks" 1255 (r_ 788), e_ w "is_rotation" 1263 (r_ 793), e_ w "is_flat" 1269 (r_ 798), e_ w "are_lines" 1275 (r_ 803), e_ w "all_pairs" 1281 (r_ 808), e_ w "sided_pairs" 1287 (r_ 813), e_ w "is_star" 1293 (r_ 818), e_ w "check_planar" 1302 (r_ 825), e_ w "do_cross" 1308 (r_ 830), e_ w "check_outerplanar" 1314 (r_ 835), e_ w "Piece" 1353 (r_ 857), e_ w "Drawer" 1433 (r_ 915), e_ w "block_rotation" 1439 (r_ 924), e_ w "flat_rotation" 1445 (r_ 929), e_ w "ring_order" 1451 (r_ 934), e_ w "least_part" 1461 (r_ 941), e_ w "lines_between" 1467 (r_ 946), e_ w "star" 1473 (r_ 951), e_ w "sided" 1479 (r_ 956), e_ w "decide_planar" 1485 (r_ 961), e_ w "decide_outerplanar" 1491 (r_ 966), e_ w "two_star" 1497 (r_ 971), e_ w "are_links" 1508 (r_ 978), e_ w "is_decomposition" 1514 (r_ 983), e_ w "width_of" 1520 (r_ 988), e_ w "filled" 1526 (r_ 993), e_ w "from_order" 1540 (r_ 1000), e_ w "order_width" 1546 (r_ 1005), e_ w "touch" 1552 (r_ 1010)] ++ [e_ w "hits" 1558 (r_ 1015), e_ w "sets_of" 1564 (r_ 1020), e_ w "hitting_set" 1574 (r_ 1027), e_ w "is_bramble" 1580 (r_ 1032), e_ w "check_width" 1590 (r_ 1039), e_ w "best_matching" 1598 (r_ 1044), e_ w "largest_matching" 1605 (r_ 1051), e_ w "barrier" 1615 (r_ 1058), e_ w "decide_matching" 1624 (r_ 1065), e_ w "splits" 1632 (r_ 1070), e_ w "is_growing" 1643 (r_ 1077), e_ w "is_module" 1649 (r_ 1082), e_ w "check_prime" 1655 (r_ 1087), e_ w "least_module" 1661 (r_ 1092), e_ w "overlap" 1667 (r_ 1097), e_ w "strong_modules" 1673 (r_ 1102), e_ w "largest_within" 1679 (r_ 1107), e_ w "tree_of" 1685 (r_ 1112), e_ w "module_tree" 1692 (r_ 1119), e_ w "bare_paths" 1698 (r_ 1124), e_ w "decide_cograph" 1706 (r_ 1131), e_ w "decide_prime" 1718 (r_ 1138), e_ w "growth" 1724 (r_ 1143), e_ w "PLAIN_KINDS" 1739 (r_ 1144), e_ w "NUMBER_KINDS" 1748 (r_ 1145), e_ w "is_number" 1755 (r_ 1152), e_ w "is_vertex" 1763 (r_ 1159), e_ w "is_question" 1776 (r_ 1166), e_ w "check_question" 1784 (r_ 1173), e_ w "colouring" 1792 (r_ 1178)] ++ [e_ w "clique_in" 1802 (r_ 1185), e_ w "common_neighbours" 1808 (r_ 1190), e_ w "colour_search" 1814 (r_ 1195), e_ w "decide_colours" 1823 (r_ 1202), e_ w "is_apart" 1829 (r_ 1207), e_ w "apart_set" 1838 (r_ 1214), e_ w "cover" 1844 (r_ 1219), e_ w "set_search" 1850 (r_ 1224), e_ w "decide_independent" 1859 (r_ 1231), e_ w "check_degenerate" 1867 (r_ 1236), e_ w "check_indegree" 1873 (r_ 1241), e_ w "is_acyclic" 1881 (r_ 1248), e_ w "check_forests" 1887 (r_ 1253), e_ w "crossing_edges" 1893 (r_ 1258), e_ w "check_trees" 1899 (r_ 1263), e_ w "decide_degenerate" 1911 (r_ 1270), e_ w "tails" 1917 (r_ 1275), e_ w "turned" 1923 (r_ 1280), e_ w "relieving_way" 1937 (r_ 1287), e_ w "decide_indegree" 1949 (r_ 1294), e_ w "ForestPacker" 2002 (r_ 1326), e_ w "set_of_edges" 2008 (r_ 1335), e_ w "decide_forests" 2014 (r_ 1340), e_ w "decide_trees" 2020 (r_ 1345), e_ w "OrderFinder" 2064 (r_ 1372), e_ w "BrambleFinder" 2103 (r_ 1398), e_ w "least_order" 2110 (r_ 1409), e_ w "decide_width" 2119 (r_ 1416), e_ w "decide_plain" 2129 (r_ 1423), e_ w "decide_numbered" 2138 (r_ 1430)] ++ [e_ w "decide" 2147 (r_ 1437), e_ w "check_plain" 2159 (r_ 1444), e_ w "check_numbered" 2171 (r_ 1451), e_ w "check" 2182 (r_ 1458), e_ w "_law_pool" 2193 (r_ 1465), e_ w "_law_spread" 2203 (r_ 1472), e_ w "_law_draw" 2214 (r_ 1479), e_ w "_law_is_int" 2221 (r_ 1486), e_ w "_law_distinct" 2230 (r_ 1493), e_ w "_law_pairs" 2240 (r_ 1500), e_ w "_law_of" 2246 (r_ 1505), e_ w "_law_met" 2255 (r_ 1512), e_ w "_law_near" 2261 (r_ 1517), e_ w "_law_shuffled" 2272 (r_ 1524), e_ w "_law_moved" 2278 (r_ 1529), e_ w "_law_other" 2284 (r_ 1534), e_ w "_law_random_graph" 2290 (r_ 1539), e_ w "_law_interval_rows" 2301 (r_ 1546), e_ w "_law_interval_graph" 2307 (r_ 1551), e_ w "_law_turned_graph" 2320 (r_ 1558), e_ w "_law_ordered_graph" 2326 (r_ 1563), e_ w "_law_clique_graph" 2332 (r_ 1568), e_ w "_law_drawn_tree" 2338 (r_ 1573), e_ w "_law_leaves" 2347 (r_ 1580), e_ w "_law_tree_pairs" 2353 (r_ 1585), e_ w "_law_graph" 2364 (r_ 1592), e_ w "_law_subsets" 2370 (r_ 1597), e_ w "_law_is_row" 2376 (r_ 1602), e_ w "_law_is_way" 2382 (r_ 1607), e_ w "_law_bare" 2393 (r_ 1614)] ++ [e_ w "_law_is_hole" 2401 (r_ 1621), e_ w "_law_ring_of" 2407 (r_ 1626), e_ w "_law_holes" 2413 (r_ 1631), e_ w "_law_chordal_right" 2419 (r_ 1636), e_ w "_law_ringed" 2425 (r_ 1641), e_ w "law" 2435 (r_ 1648)])) 246), a_ []⟩),
  (12, ⟨n_, none, (.fields (a_ ([(.int 2 0), (.int 0 0), (r_ 20), (.int 4 0), (.int 0 0), (r_ 33), (.int 6 0), (.int 0 0), (r_ 45), (.int 10 0), (.int 0 0), (r_ 57), (.int 12 0), (.int 0 0), (r_ 62), (.int 14 0), (.int 0 0), (r_ 67), (.int 16 0), (.int 0 0), (r_ 74), (.int 26 0), (.int 0 0), (r_ 81), (.int 28 0), (.int 0 0), (r_ 88), (.int 37 0), (.int 0 0), (r_ 95)] ++ [(.int 39 0), (.int 0 0), (r_ 100), (.int 41 0), (.int 0 0), (r_ 105), (.int 43 0), (.int 0 0), (r_ 112), (.int 53 0), (.int 0 0), (r_ 117), (.int 59 0), (.int 0 0), (r_ 124), (.int 61 0), (.int 0 0), (r_ 131), (.int 63 0), (.int 0 0), (r_ 136), (.int 66 0), (.int 0 0), (r_ 141), (.int 70 0), (.int 0 0), (r_ 146), (.int 73 0), (.int 0 0), (r_ 151)] ++ [(.int 77 0), (.int 0 0), (r_ 158), (.int 79 0), (.int 0 0), (r_ 165), (.int 81 0), (.int 0 0), (r_ 172), (.int 83 0), (.int 0 0), (r_ 179), (.int 87 0), (.int 0 0), (r_ 186), (.int 89 0), (.int 0 0), (r_ 191), (.int 91 0), (.int 0 0), (r_ 196), (.int 93 0), (.int 0 0), (r_ 201), (.int 97 0), (.int 0 0), (r_ 206), (.int 99 0), (.int 0 0), (r_ 213)] ++ [(.int 101 0), (.int 0 0), (r_ 220), (.int 104 0), (.int 0 0), (r_ 225), (.int 108 0), (.int 0 0), (r_ 232), (.int 110 0), (.int 0 0), (r_ 239), (.int 112 0), (.int 0 0), (r_ 246), (.int 128 0), (.int 0 0), (r_ 251), (.int 130 0), (.int 0 0), (r_ 258), (.int 138 0), (.int 0 0), (r_ 265), (.int 140 0), (.int 0 0), (r_ 272), (.int 142 0), (.int 0 0), (r_ 279)] ++ [(.int 144 0), (.int 0 0), (r_ 284), (.int 150 0), (.int 0 0), (r_ 289), (.int 154 0), (.int 0 0), (r_ 294), (.int 157 0), (.int 0 0), (r_ 299), (.int 161 0), (.int 0 0), (r_ 304), (.int 172 0), (.int 0 0), (r_ 309), (.int 185 0), (.int 0 0), (r_ 314), (.int 188 0), (.int 0 0), (r_ 319), (.int 198 0), (.int 0 0), (r_ 324), (.int 201 0), (.int 0 0), (r_ 329)] ++ [(.int 204 0), (.int 0 0), (r_ 334), (.int 218 0), (.int 0 0), (r_ 339), (.int 224 0), (.int 0 0), (r_ 344), (.int 236 0), (.int 0 0), (r_ 349), (.int 242 0), (.int 0 0), (r_ 354), (.int 245 0), (.int 0 0), (r_ 359), (.int 252 0), (.int 0 0), (r_ 364), (.int 254 0), (.int 0 0), (r_ 371), (.int 283 0), (.int 0 0), (r_ 404), (.int 290 0), (.int 0 0), (r_ 409)] ++ [(.int 293 0), (.int 0 0), (r_ 416), (.int 301 0), (.int 0 0), (r_ 423), (.int 326 0), (.int 0 0), (r_ 456), (.int 332 0), (.int 0 0), (r_ 463), (.int 339 0), (.int 0 0), (r_ 470), (.int 341 0), (.int 0 0), (r_ 475), (.int 347 0), (.int 0 0), (r_ 482), (.int 349 0), (.int 0 0), (r_ 489), (.int 351 0), (.int 0 0), (r_ 494), (.int 361 0), (.int 0 0), (r_ 499)] ++ [(.int 371 0), (.int 0 0), (r_ 506), (.int 377 0), (.int 0 0), (r_ 511), (.int 383 0), (.int 0 0), (r_ 518), (.int 389 0), (.int 0 0), (r_ 525), (.int 393 0), (.int 0 0), (r_ 532), (.int 410 0), (.int 0 0), (r_ 539), (.int 422 0), (.int 0 0), (r_ 544), (.int 434 0), (.int 0 0), (r_ 551), (.int 442 0), (.int 0 0), (r_ 556), (.int 453 0), (.int 0 0), (r_ 561)] ++ [(.int 463 0), (.int 0 0), (r_ 568), (.int 466 0), (.int 0 0), (r_ 573), (.int 471 0), (.int 0 0), (r_ 578), (.int 477 0), (.int 0 0), (r_ 585), (.int 487 0), (.int 0 0), (r_ 590), (.int 495 0), (.int 0 0), (r_ 597), (.int 507 0), (.int 0 0), (r_ 602), (.int 517 0), (.int 0 0), (r_ 607), (.int 519 0), (.int 0 0), (r_ 612), (.int 521 0), (.int 0 0), (r_ 619)] ++ [(.int 531 0), (.int 0 0), (r_ 624), (.int 537 0), (.int 0 0), (r_ 631), (.int 549 0), (.int 0 0), (r_ 636), (.int 557 0), (.int 0 0), (r_ 641), (.int 563 0), (.int 0 0), (r_ 646), (.int 566 0), (.int 0 0), (r_ 651), (.int 577 0), (.int 0 0), (r_ 658), (.int 587 0), (.int 0 0), (r_ 663), (.int 592 0), (.int 0 0), (r_ 670), (.int 597 0), (.int 0 0), (r_ 675)] ++ [(.int 603 0), (.int 0 0), (r_ 680), (.int 613 0), (.int 0 0), (r_ 685), (.int 622 0), (.int 0 0), (r_ 692), (.int 625 0), (.int 0 0), (r_ 697), (.int 631 0), (.int 0 0), (r_ 702), (.int 640 0), (.int 0 0), (r_ 709), (.int 652 0), (.int 0 0), (r_ 716), (.int 707 0), (.int 0 0), (r_ 763), (.int 717 0), (.int 0 0), (r_ 770), (.int 721 0), (.int 0 0), (r_ 775)] ++ [(.int 731 0), (.int 0 0), (r_ 780), (.int 740 0), (.int 0 0), (r_ 787), (.int 747 0), (.int 0 0), (r_ 792), (.int 751 0), (.int 0 0), (r_ 797), (.int 759 0), (.int 0 0), (r_ 802), (.int 767 0), (.int 0 0), (r_ 807), (.int 769 0), (.int 0 0), (r_ 812), (.int 771 0), (.int 0 0), (r_ 817), (.int 776 0), (.int 0 0), (r_ 824), (.int 780 0), (.int 0 0), (r_ 829)] ++ [(.int 787 0), (.int 0 0), (r_ 834), (.int 797 0), (.int 0 0), (r_ 841), (.int 809 0), (.int 0 0), (r_ 867), (.int 867 0), (.int 0 0), (r_ 923), (.int 871 0), (.int 0 0), (r_ 928), (.int 880 0), (.int 0 0), (r_ 933), (.int 884 0), (.int 0 0), (r_ 940), (.int 890 0), (.int 0 0), (r_ 945), (.int 899 0), (.int 0 0), (r_ 950), (.int 902 0), (.int 0 0), (r_ 955)] ++ [(.int 906 0), (.int 0 0), (r_ 960), (.int 915 0), (.int 0 0), (r_ 965), (.int 924 0), (.int 0 0), (r_ 970), (.int 936 0), (.int 0 0), (r_ 977), (.int 943 0), (.int 0 0), (r_ 982), (.int 957 0), (.int 0 0), (r_ 987), (.int 959 0), (.int 0 0), (r_ 992), (.int 968 0), (.int 0 0), (r_ 999), (.int 979 0), (.int 0 0), (r_ 1004), (.int 981 0), (.int 0 0), (r_ 1009)] ++ [(.int 986 0), (.int 0 0), (r_ 1014), (.int 988 0), (.int 0 0), (r_ 1019), (.int 995 0), (.int 0 0), (r_ 1026), (.int 1000 0), (.int 0 0), (r_ 1031), (.int 1007 0), (.int 0 0), (r_ 1038), (.int 1012 0), (.int 0 0), (r_ 1043), (.int 1020 0), (.int 0 0), (r_ 1050), (.int 1022 0), (.int 0 0), (r_ 1057), (.int 1029 0), (.int 0 0), (r_ 1064), (.int 1033 0), (.int 0 0), (r_ 1069)] ++ [(.int 1036 0), (.int 0 0), (r_ 1076), (.int 1045 0), (.int 0 0), (r_ 1081), (.int 1047 0), (.int 0 0), (r_ 1086), (.int 1055 0), (.int 0 0), (r_ 1091), (.int 1062 0), (.int 0 0), (r_ 1096), (.int 1065 0), (.int 0 0), (r_ 1101), (.int 1070 0), (.int 0 0), (r_ 1106), (.int 1073 0), (.int 0 0), (r_ 1111), (.int 1086 0), (.int 0 0), (r_ 1118), (.int 1088 0), (.int 0 0), (r_ 1123)] ++ [(.int 1095 0), (.int 0 0), (r_ 1130), (.int 1098 0), (.int 0 0), (r_ 1137), (.int 1108 0), (.int 0 0), (r_ 1142), (.int 1116 0), (.int 0 0), (r_ 1151), (.int 1118 0), (.int 0 0), (r_ 1158), (.int 1120 0), (.int 0 0), (r_ 1165), (.int 1134 0), (.int 0 0), (r_ 1172), (.int 1138 0), (.int 0 0), (r_ 1177), (.int 1149 0), (.int 0 0), (r_ 1184), (.int 1154 0), (.int 0 0), (r_ 1189)] ++ [(.int 1156 0), (.int 0 0), (r_ 1194), (.int 1165 0), (.int 0 0), (r_ 1201), (.int 1170 0), (.int 0 0), (r_ 1206), (.int 1172 0), (.int 0 0), (r_ 1213), (.int 1179 0), (.int 0 0), (r_ 1218), (.int 1190 0), (.int 0 0), (r_ 1223), (.int 1198 0), (.int 0 0), (r_ 1230), (.int 1204 0), (.int 0 0), (r_ 1235), (.int 1210 0), (.int 0 0), (r_ 1240), (.int 1216 0), (.int 0 0), (r_ 1247)] ++ [(.int 1218 0), (.int 0 0), (r_ 1252), (.int 1226 0), (.int 0 0), (r_ 1257), (.int 1229 0), (.int 0 0), (r_ 1262), (.int 1244 0), (.int 0 0), (r_ 1269), (.int 1247 0), (.int 0 0), (r_ 1274), (.int 1249 0), (.int 0 0), (r_ 1279), (.int 1252 0), (.int 0 0), (r_ 1286), (.int 1267 0), (.int 0 0), (r_ 1293), (.int 1276 0), (.int 0 0), (r_ 1300), (.int 1313 0), (.int 0 0), (r_ 1334)] ++ [(.int 1315 0), (.int 0 0), (r_ 1339), (.int 1321 0), (.int 0 0), (r_ 1344), (.int 1333 0), (.int 0 0), (r_ 1351), (.int 1360 0), (.int 0 0), (r_ 1382), (.int 1382 0), (.int 0 0), (r_ 1408), (.int 1384 0), (.int 0 0), (r_ 1415), (.int 1390 0), (.int 0 0), (r_ 1422), (.int 1412 0), (.int 0 0), (r_ 1429), (.int 1428 0), (.int 0 0), (r_ 1436), (.int 1437 0), (.int 0 0), (r_ 1443)] ++ [(.int 1461 0), (.int 0 0), (r_ 1450), (.int 1480 0), (.int 0 0), (r_ 1457), (.int 1491 0), (.int 0 0), (r_ 1464), (.int 1496 0), (.int 0 0), (r_ 1471), (.int 1503 0), (.int 0 0), (r_ 1478), (.int 1518 0), (.int 0 0), (r_ 1485), (.int 1520 0), (.int 0 0), (r_ 1492), (.int 1526 0), (.int 0 0), (r_ 1499), (.int 1532 0), (.int 0 0), (r_ 1504), (.int 1534 0), (.int 0 0), (r_ 1511)] ++ [(.int 1536 0), (.int 0 0), (r_ 1516), (.int 1538 0), (.int 0 0), (r_ 1523), (.int 1544 0), (.int 0 0), (r_ 1528), (.int 1546 0), (.int 0 0), (r_ 1533), (.int 1548 0), (.int 0 0), (r_ 1538), (.int 1552 0), (.int 0 0), (r_ 1545), (.int 1558 0), (.int 0 0), (r_ 1550), (.int 1560 0), (.int 0 0), (r_ 1557), (.int 1568 0), (.int 0 0), (r_ 1562), (.int 1575 0), (.int 0 0), (r_ 1567)] ++ [(.int 1584 0), (.int 0 0), (r_ 1572), (.int 1592 0), (.int 0 0), (r_ 1579), (.int 1599 0), (.int 0 0), (r_ 1584), (.int 1612 0), (.int 0 0), (r_ 1591), (.int 1636 0), (.int 0 0), (r_ 1596), (.int 1641 0), (.int 0 0), (r_ 1601), (.int 1645 0), (.int 0 0), (r_ 1606), (.int 1649 0), (.int 0 0), (r_ 1613), (.int 1654 0), (.int 0 0), (r_ 1620), (.int 1658 0), (.int 0 0), (r_ 1625)] ++ [(.int 1665 0), (.int 0 0), (r_ 1630), (.int 1673 0), (.int 0 0), (r_ 1635), (.int 1683 0), (.int 0 0), (r_ 1640), (.int 1689 0), (.int 0 0), (r_ 1647)]))), a_ []⟩),
  (1237, ⟨(.type "tuple"), none, (.seq (a_ []) 0), a_ []⟩),
  (1238, ⟨n_, none, (.fields (a_ [])), a_ []⟩),
  (1239, ⟨n_, none, (f_ (top 200) "check_indegree" "check_indegree" 0 n_ n_ n_ n_ none n_ n_ 0), a_ []⟩),
  (1240, ⟨(.type "code"), none, (.fields (a_ ([(s_ "check_indegree" 1868), (s_ "check_indegree" 1869), (s_ "/claim/cut.py" 1870), (.int 1210 0), (.int 4 0), (.int 0 0), (.int 0 0), (.int 3 0), (r_ 1237), (.bool true), (.int 181 0), (r_ 1238), n_, n_, n_, (r_ 1239), (.int 1871 0), (.int 1210 0), (s_ "/claim/cut.py" 1872)]))), a_ []⟩),
  (1241, ⟨(.type "function"), none, (f_ (top 200) "check_indegree" "check_indegree" 3 n_ n_ n_ (s_ "trellis.check_sparse" 1860) none (r_ 1240) n_ 0), a_ []⟩),
  (1242, ⟨(.type "tuple"), none, (.seq (a_ []) 0), a_ []⟩),
  (1243, ⟨n_, none, (.fields (a_ [])), a_ []⟩),
  (1244, ⟨(.type "tuple"), none, (.seq (a_ ([(s_ "n" 1877), (s_ "edges" 1878)])) 0), a_ []⟩),
  (1245, ⟨(.type "tuple"), none, (.seq (a_ []) 0), a_ []⟩),
  (1246, ⟨n_, none, (f_ (top 201) "is_acyclic" "is_acyclic" 0 n_ n_ n_ n_ none n_ n_ 0), a_ []⟩),
  (1247, ⟨(.type "code"), none, (.fields (a_ ([(s_ "is_acyclic" 1874), (s_ "is_acyclic" 1875), (s_ "/claim/cut.py" 1876), (.int 1216 0), (.int 2 0), (.int 0 0), (.int 0 0), (.int 3 0), (r_ 1242), (.bool true), (.int 181 0), (r_ 1243), n_, (r_ 1244), (r_ 1245), (r_ 1246), (.int 1879 0), (.int 1216 0), (s_ "/claim/cut.py" 1880)]))), a_ []⟩),
  (1248, ⟨(.type "function"), none, (f_ (top 201) "is_acyclic" "is_acyclic" 3 n_ n_ n_ (s_ "trellis.check_sparse" 1860) none (r_ 1247) n_ 0), a_ []⟩),
  (1249, ⟨(.type "tuple"), none, (.seq (a_ []) 0), a_ []⟩),
  (1250, ⟨n_, none, (.fields (a_ [])), a_ []⟩),
  (1251, ⟨n_, none, (f_ (top 202) "check_forests" "check_forests" 0 n_ n_ n_ n_ none n_ n_ 0), a_ []⟩),
  (1252, ⟨(.type "code"), none, (.fields (a_ ([(s_ "check_forests" 1882), (s_ "check_forests" 1883), (s_ "/claim/cut.py" 1884), (.int 1218 0), (.int 4 0), (.int 0 0), (.int 0 0), (.int 3 0), (r_ 1249), (.bool true), (.int 181 0), (r_ 1250), n_, n_, n_, (r_ 1251), (.int 1885 0), (.int 1218 0), (s_ "/claim/cut.py" 1886)]))), a_ []⟩),
  (1253, ⟨(.type "function"), none, (f_ (top 202) "check_forests" "check_forests" 3 n_ n_ n_ (s_ "trellis.check_sparse" 1860) none (r_ 1252) n_ 0), a_ []⟩),
  (1254, ⟨(.type "tuple"), none, (.seq (a_ []) 0), a_ []⟩),
  (1255, ⟨n_, none, (.fields (a_ [])), a_ []⟩),
  (1256, ⟨n_, none, (f_ (top 203) "crossing_edges" "crossing_edges" 0 n_ n_ n_ n_ none n_ n_ 0), a_ []⟩),
  (1257, ⟨(.type "code"), none, (.fields (a_ ([(s_ "crossing_edges" 1888), (s_ "crossing_edges" 1889), (s_ "/claim/cut.py" 1890), (.int 1226 0), (.int 2 0), (.int 0 0), (.int 0 0), (.int 3 0), (r_ 1254), (.bool true), (.int 181 0), (r_ 1255), n_, n_, n_, (r_ 1256), (.int 1891 0), (.int 1226 0), (s_ "/claim/cut.py" 1892)]))), a_ []⟩),
  (1258, ⟨(.type "function"), none, (f_ (top 203) "crossing_edges" "crossing_edges" 3 n_ n_ n_ (s_ "trellis.check_sparse" 1860) none (r_ 1257) n_ 0), a_ []⟩),
  (1259, ⟨(.type "tuple"), none, (.seq (a_ []) 0), a_ []⟩)]
def nw4_1 (w : World) : List (Nat × Obj) := [
  (1260, ⟨n_, none, (.fields (a_ [])), a_ []⟩),
  (1261, ⟨n_, none, (f_ (top 204) "check_trees" "check_trees" 0 n_ n_ n_ n_ none n_ n_ 0), a_ []⟩),
  (1262, ⟨(.type "code"), none, (.fields (a_ ([(s_ "check_trees" 1894), (s_ "check_trees" 1895), (s_ "/claim/cut.py" 1896), (.int 1229 0), (.int 4 0), (.int 0 0), (.int 0 0), (.int 3 0), (r_ 1259), (.bool true), (.int 181 0), (r_ 1260), n_, n_, n_, (r_ 1261), (.int 1897 0), (.int 1229 0), (s_ "/claim/cut.py" 1898)]))), a_ []⟩),
  (1263, ⟨(.type "function"), none, (f_ (top 204) "check_trees" "check_trees" 3 n_ n_ n_ (s_ "trellis.check_sparse" 1860) none (r_ 1262) n_ 0), a_ []⟩),
  (1264, ⟨(.type "tuple"), none, (.seq (a_ []) 0), a_ []⟩),
  (1265, ⟨n_, none, (.fields (a_ [])), a_ []⟩),
  (1266, ⟨(.type "tuple"), none, (.seq (a_ ([(s_ "graph" 1905), (s_ "k" 1906), (s_ "order" 1907), (s_ "left" 1908)])) 0), a_ []⟩),
  (1267, ⟨(.type "tuple"), none, (.seq (a_ []) 0), a_ []⟩),
  (1268, ⟨n_, none, (f_ (top 206) "decide_degenerate" "decide_degenerate" 0 n_ n_ n_ n_ none n_ n_ 0), a_ []⟩),
  (1269, ⟨(.type "code"), none, (.fields (a_ ([(s_ "decide_degenerate" 1902), (s_ "decide_degenerate" 1903), (s_ "/claim/cut.py" 1904), (.int 1244 0), (.int 2 0), (.int 0 0), (.int 0 0), (.int 3 0), (r_ 1264), (.bool true), (.int 181 0), (r_ 1265), n_, (r_ 1266), (r_ 1267), (r_ 1268), (.int 1909 0), (.int 1244 0), (s_ "/claim/cut.py" 1910)]))), a_ []⟩),
  (1270, ⟨(.type "function"), none, (f_ (top 206) "decide_degenerate" "decide_degenerate" 3 n_ n_ n_ (s_ "trellis.sparse" 1900) none (r_ 1269) n_ 0), a_ []⟩),
  (1271, ⟨(.type "tuple"), none, (.seq (a_ []) 0), a_ []⟩),
  (1272, ⟨n_, none, (.fields (a_ [])), a_ []⟩),
  (1273, ⟨n_, none, (f_ (top 207) "tails" "tails" 0 n_ n_ n_ n_ none n_ n_ 0), a_ []⟩),
  (1274, ⟨(.type "code"), none, (.fields (a_ ([(s_ "tails" 1912), (s_ "tails" 1913), (s_ "/claim/cut.py" 1914), (.int 1247 0), (.int 2 0), (.int 0 0), (.int 0 0), (.int 3 0), (r_ 1271), (.bool true), (.int 181 0), (r_ 1272), n_, n_, n_, (r_ 1273), (.int 1915 0), (.int 1247 0), (s_ "/claim/cut.py" 1916)]))), a_ []⟩),
  (1275, ⟨(.type "function"), none, (f_ (top 207) "tails" "tails" 3 n_ n_ n_ (s_ "trellis.sparse" 1900) none (r_ 1274) n_ 0), a_ []⟩),
  (1276, ⟨(.type "tuple"), none, (.seq (a_ []) 0), a_ []⟩),
  (1277, ⟨n_, none, (.fields (a_ [])), a_ []⟩),
  (1278, ⟨n_, none, (f_ (top 208) "turned" "turned" 0 n_ n_ n_ n_ none n_ n_ 0), a_ []⟩),
  (1279, ⟨(.type "code"), none, (.fields (a_ ([(s_ "turned" 1918), (s_ "turned" 1919), (s_ "/claim/cut.py" 1920), (.int 1249 0), (.int 2 0), (.int 0 0), (.int 0 0), (.int 3 0), (r_ 1276), (.bool true), (.int 181 0), (r_ 1277), n_, n_, n_, (r_ 1278), (.int 1921 0), (.int 1249 0), (s_ "/claim/cut.py" 1922)]))), a_ []⟩),
  (1280, ⟨(.type "function"), none, (f_ (top 208) "turned" "turned" 3 n_ n_ n_ (s_ "trellis.sparse" 1900) none (r_ 1279) n_ 0), a_ []⟩),
  (1281, ⟨(.type "tuple"), none, (.seq (a_ []) 0), a_ []⟩),
  (1282, ⟨n_, none, (.fields (a_ [])), a_ []⟩),
  (1283, ⟨(.type "tuple"), none, (.seq (a_ ([(s_ "arrows" 1927), (s_ "v" 1928), (s_ "k" 1929), (s_ "before" 1930), (s_ "waiting" 1931), (s_ "u" 1932), (s_ "way" 1933), (s_ "w" 1934)])) 0), a_ []⟩),
  (1284, ⟨(.type "tuple"), none, (.seq (a_ []) 0), a_ []⟩)]
def nw4_2 (w : World) : List (Nat × Obj) := [
  (1285, ⟨n_, none, (f_ (top 209) "relieving_way" "relieving_way" 0 n_ n_ n_ n_ none n_ n_ 0), a_ []⟩),
  (1286, ⟨(.type "code"), none, (.fields (a_ ([(s_ "relieving_way" 1924), (s_ "relieving_way" 1925), (s_ "/claim/cut.py" 1926), (.int 1252 0), (.int 3 0), (.int 0 0), (.int 0 0), (.int 3 0), (r_ 1281), (.bool true), (.int 181 0), (r_ 1282), n_, (r_ 1283), (r_ 1284), (r_ 1285), (.int 1935 0), (.int 1252 0), (s_ "/claim/cut.py" 1936)]))), a_ []⟩),
  (1287, ⟨(.type "function"), none, (f_ (top 209) "relieving_way" "relieving_way" 3 n_ n_ n_ (s_ "trellis.sparse" 1900) none (r_ 1286) n_ 0), a_ []⟩),
  (1288, ⟨(.type "tuple"), none, (.seq (a_ []) 0), a_ []⟩),
  (1289, ⟨n_, none, (.fields (a_ [])), a_ []⟩),
  (1290, ⟨(.type "tuple"), none, (.seq (a_ ([(s_ "graph" 1941), (s_ "k" 1942), (s_ "arrows" 1943), (s_ "v" 1944), (s_ "way" 1945), (s_ "reached" 1946)])) 0), a_ []⟩),
  (1291, ⟨(.type "tuple"), none, (.seq (a_ []) 0), a_ []⟩),
  (1292, ⟨n_, none, (f_ (top 210) "decide_indegree" "decide_indegree" 0 n_ n_ n_ n_ none n_ n_ 0), a_ []⟩),
  (1293, ⟨(.type "code"), none, (.fields (a_ ([(s_ "decide_indegree" 1938), (s_ "decide_indegree" 1939), (s_ "/claim/cut.py" 1940), (.int 1267 0), (.int 2 0), (.int 0 0), (.int 0 0), (.int 3 0), (r_ 1288), (.bool true), (.int 181 0), (r_ 1289), n_, (r_ 1290), (r_ 1291), (r_ 1292), (.int 1947 0), (.int 1267 0), (s_ "/claim/cut.py" 1948)]))), a_ []⟩),
  (1294, ⟨(.type "function"), none, (f_ (top 210) "decide_indegree" "decide_indegree" 3 n_ n_ n_ (s_ "trellis.sparse" 1900) none (r_ 1293) n_ 0), a_ []⟩),
  (1295, ⟨(.type "tuple"), none, (.seq (a_ []) 0), a_ []⟩),
  (1296, ⟨(.type "builtin_function_or_method"), none, (.fields (a_ ([(.builtin "type.__prepare__"), (.type "type")]))), a_ []⟩),
  (1297, ⟨(.type "dict"), none, (.dict (a_ ([e_ w "__module__" 1957 (s_ "trellis.sparse" 1900), e_ w "__qualname__" 1959 (s_ "ForestPacker" 1958), e_ w "__firstlineno__" 1961 (.int 1276 1960), e_ w "__init__" 1967 (r_ 1306), e_ w "ring_edges" 1973 (r_ 1311), e_ w "reached" 1979 (r_ 1316), e_ w "put" 1992 (r_ 1323), e_ w "__static_attributes__" 1995 (r_ 1324)])) 8), a_ []⟩),
  (1298, ⟨(.type "tuple"), none, (.seq (a_ []) 0), a_ []⟩),
  (1299, ⟨n_, none, (.fields (a_ ([(.int 1278 0), (.int 4 0), (r_ 1305), (.int 1282 0), (.int 4 0), (r_ 1310), (.int 1286 0), (.int 4 0), (r_ 1315), (.int 1301 0), (.int 4 0), (r_ 1322)]))), a_ []⟩),
  (1300, ⟨(.type "code"), none, (.fields (a_ ([(s_ "ForestPacker" 1952), (s_ "ForestPacker" 1953), (s_ "/claim/cut.py" 1954), (.int 1276 0), (.int 0 0), (.int 0 0), (.int 0 0), (.int 0 0), (r_ 1298), (.bool false), (.int 181 0), (r_ 1299), n_, n_, n_, n_, (.int 1955 0), (.int 1276 0), (s_ "/claim/cut.py" 1956)]))), a_ []⟩),
  (1301, ⟨(.type "frame"), none, .plain, a_ ([some (r_ 1300), some (r_ 3), some (r_ 1297), none, some (s_ "trellis.sparse" 1900), none, some (r_ 0)])⟩),
  (1302, ⟨(.type "tuple"), none, (.seq (a_ []) 0), a_ []⟩),
  (1303, ⟨n_, none, (.fields (a_ [])), a_ []⟩),
  (1304, ⟨n_, none, (f_ (inClass (top 211) 0) "__init__" "ForestPacker.__init__" 0 n_ n_ n_ n_ none n_ n_ 0), a_ []⟩),
  (1305, ⟨(.type "code"), none, (.fields (a_ ([(s_ "__init__" 1962), (s_ "ForestPacker.__init__" 1963), (s_ "/claim/cut.py" 1964), (.int 1278 0), (.int 3 0), (.int 0 0), (.int 0 0), (.int 3 0), (r_ 1302), (.bool true), (.int 181 0), (r_ 1303), n_, n_, n_, (r_ 1304), (.int 1965 0), (.int 1278 0), (s_ "/claim/cut.py" 1966)]))), a_ []⟩),
  (1306, ⟨(.type "function"), none, (f_ (inClass (top 211) 0) "__init__" "ForestPacker.__init__" 3 n_ n_ n_ (s_ "trellis.sparse" 1900) none (r_ 1305) n_ 0), a_ []⟩),
  (1307, ⟨(.type "tuple"), none, (.seq (a_ []) 0), a_ []⟩),
  (1308, ⟨n_, none, (.fields (a_ [])), a_ []⟩),
  (1309, ⟨n_, none, (f_ (inClass (top 211) 1) "ring_edges" "ForestPacker.ring_edges" 0 n_ n_ n_ n_ none n_ n_ 0), a_ []⟩)]
def nw4_3 (w : World) : List (Nat × Obj) := [
  (1310, ⟨(.type "code"), none, (.fields (a_ ([(s_ "ring_edges" 1968), (s_ "ForestPacker.ring_edges" 1969), (s_ "/claim/cut.py" 1970), (.int 1282 0), (.int 3 0), (.int 0 0), (.int 0 0), (.int 3 0), (r_ 1307), (.bool true), (.int 181 0), (r_ 1308), n_, n_, n_, (r_ 1309), (.int 1971 0), (.int 1282 0), (s_ "/claim/cut.py" 1972)]))), a_ []⟩),
  (1311, ⟨(.type "function"), none, (f_ (inClass (top 211) 1) "ring_edges" "ForestPacker.ring_edges" 3 n_ n_ n_ (s_ "trellis.sparse" 1900) none (r_ 1310) n_ 0), a_ []⟩),
  (1312, ⟨(.type "tuple"), none, (.seq (a_ []) 0), a_ []⟩),
  (1313, ⟨n_, none, (.fields (a_ [])), a_ []⟩),
  (1314, ⟨n_, none, (f_ (inClass (top 211) 2) "reached" "ForestPacker.reached" 0 n_ n_ n_ n_ none n_ n_ 0), a_ []⟩),
  (1315, ⟨(.type "code"), none, (.fields (a_ ([(s_ "reached" 1974), (s_ "ForestPacker.reached" 1975), (s_ "/claim/cut.py" 1976), (.int 1286 0), (.int 2 0), (.int 0 0), (.int 0 0), (.int 3 0), (r_ 1312), (.bool true), (.int 181 0), (r_ 1313), n_, n_, n_, (r_ 1314), (.int 1977 0), (.int 1286 0), (s_ "/claim/cut.py" 1978)]))), a_ []⟩),
  (1316, ⟨(.type "function"), none, (f_ (inClass (top 211) 2) "reached" "ForestPacker.reached" 3 n_ n_ n_ (s_ "trellis.sparse" 1900) none (r_ 1315) n_ 0), a_ []⟩),
  (1317, ⟨(.type "tuple"), none, (.seq (a_ []) 0), a_ []⟩),
  (1318, ⟨n_, none, (.fields (a_ [])), a_ []⟩),
  (1319, ⟨(.type "tuple"), none, (.seq (a_ ([(s_ "self" 1983), (s_ "edge" 1984), (s_ "before" 1985), (s_ "end" 1986), (s_ "moving" 1987), (s_ "number" 1988), (s_ "part" 1989)])) 0), a_ []⟩),
  (1320, ⟨(.type "tuple"), none, (.seq (a_ []) 0), a_ []⟩),
  (1321, ⟨n_, none, (f_ (inClass (top 211) 3) "put" "ForestPacker.put" 0 n_ n_ n_ n_ none n_ n_ 0), a_ []⟩),
  (1322, ⟨(.type "code"), none, (.fields (a_ ([(s_ "put" 1980), (s_ "ForestPacker.put" 1981), (s_ "/claim/cut.py" 1982), (.int 1301 0), (.int 2 0), (.int 0 0), (.int 0 0), (.int 3 0), (r_ 1317), (.bool true), (.int 181 0), (r_ 1318), n_, (r_ 1319), (r_ 1320), (r_ 1321), (.int 1990 0), (.int 1301 0), (s_ "/claim/cut.py" 1991)]))), a_ []⟩),
  (1323, ⟨(.type "function"), none, (f_ (inClass (top 211) 3) "put" "ForestPacker.put" 3 n_ n_ n_ (s_ "trellis.sparse" 1900) none (r_ 1322) n_ 0), a_ []⟩),
  (1324, ⟨(.type "tuple"), none, (.seq (a_ ([(s_ "n" 1993), (s_ "parts" 1994)])) 0), a_ []⟩),
  (1325, ⟨(.type "dict"), none, (.dict (a_ ([e_ w "__module__" 1957 (s_ "trellis.sparse" 1900), e_ w "__firstlineno__" 1961 (.int 1276 1960), e_ w "__init__" 1967 (r_ 1306), e_ w "ring_edges" 1973 (r_ 1311), e_ w "reached" 1979 (r_ 1316), e_ w "put" 1992 (r_ 1323), e_ w "__static_attributes__" 1995 (r_ 1324), e_ w "__dict__" 1997 (r_ 1327), e_ w "__weakref__" 1999 (r_ 1328), e_ w "__doc__" 2000 n_])) 4), a_ []⟩),
  (1326, ⟨(.type "type"), none, (.cls ⟨(z "ForestPacker"), ([(.type "object")]), ([(r_ 1326), (.type "object")]), 1325, (z "ForestPacker"), true, [], [], false, none, false⟩), a_ ([none, none, some (s_ "ForestPacker" 1950), some (s_ "ForestPacker" 1958), some (.builtin "object.__new__"), some (.bool true)])⟩),
  (1327, ⟨(.type "getset_descriptor"), none, (.fields (a_ ([(s_ "__dict__" 1996), (r_ 1326), (.builtin "function.__dict__"), (.builtin "function.__dict__#set")]))), a_ []⟩),
  (1328, ⟨(.type "getset_descriptor"), none, (.fields (a_ ([(s_ "__weakref__" 1998), (r_ 1326), (.builtin "ExceptionGroup.__weakref__"), n_]))), a_ []⟩),
  (1329, ⟨(.type "super"), none, (.fields (a_ ([(r_ 1326), (r_ 1326), (r_ 1326)]))), a_ []⟩),
  (1330, ⟨(.type "builtin_function_or_method"), none, (.fields (a_ ([(.builtin "object.__init_subclass__"), (r_ 1326)]))), a_ []⟩),
  (1331, ⟨(.type "tuple"), none, (.seq (a_ []) 0), a_ []⟩),
  (1332, ⟨n_, none, (.fields (a_ [])), a_ []⟩),
  (1333, ⟨n_, none, (f_ (top 212) "set_of_edges" "set_of_edges" 0 n_ n_ n_ n_ none n_ n_ 0), a_ []⟩),
  (1334, ⟨(.type "code"), none, (.fields (a_ ([(s_ "set_of_edges" 2003), (s_ "set_of_edges" 2004), (s_ "/claim/cut.py" 2005), (.int 1313 0), (.int 3 0), (.int 0 0), (.int 0 0), (.int 3 0), (r_ 1331), (.bool true), (.int 181 0), (r_ 1332), n_, n_, n_, (r_ 1333), (.int 2006 0), (.int 1313 0), (s_ "/claim/cut.py" 2007)]))), a_ []⟩)]
def nw4_4 (w : World) : List (Nat × Obj) := [
  (1335, ⟨(.type "function"), none, (f_ (top 212) "set_of_edges" "set_of_edges" 3 n_ n_ n_ (s_ "trellis.sparse" 1900) none (r_ 1334) n_ 0), a_ []⟩),
  (1336, ⟨(.type "tuple"), none, (.seq (a_ []) 0), a_ []⟩),
  (1337, ⟨n_, none, (.fields (a_ [])), a_ []⟩),
  (1338, ⟨n_, none, (f_ (top 213) "decide_forests" "decide_forests" 0 n_ n_ n_ n_ none n_ n_ 0), a_ []⟩),
  (1339, ⟨(.type "code"), none, (.fields (a_ ([(s_ "decide_forests" 2009), (s_ "decide_forests" 2010), (s_ "/claim/cut.py" 2011), (.int 1315 0), (.int 2 0), (.int 0 0), (.int 0 0), (.int 3 0), (r_ 1336), (.bool true), (.int 181 0), (r_ 1337), n_, n_, n_, (r_ 1338), (.int 2012 0), (.int 1315 0), (s_ "/claim/cut.py" 2013)]))), a_ []⟩),
  (1340, ⟨(.type "function"), none, (f_ (top 213) "decide_forests" "decide_forests" 3 n_ n_ n_ (s_ "trellis.sparse" 1900) none (r_ 1339) n_ 0), a_ []⟩),
  (1341, ⟨(.type "tuple"), none, (.seq (a_ []) 0), a_ []⟩),
  (1342, ⟨n_, none, (.fields (a_ [])), a_ []⟩),
  (1343, ⟨n_, none, (f_ (top 214) "decide_trees" "decide_trees" 0 n_ n_ n_ n_ none n_ n_ 0), a_ []⟩),
  (1344, ⟨(.type "code"), none, (.fields (a_ ([(s_ "decide_trees" 2015), (s_ "decide_trees" 2016), (s_ "/claim/cut.py" 2017), (.int 1321 0), (.int 2 0), (.int 0 0), (.int 0 0), (.int 3 0), (r_ 1341), (.bool true), (.int 181 0), (r_ 1342), n_, n_, n_, (r_ 1343), (.int 2018 0), (.int 1321 0), (s_ "/claim/cut.py" 2019)]))), a_ []⟩),
  (1345, ⟨(.type "function"), none, (f_ (top 214) "decide_trees" "decide_trees" 3 n_ n_ n_ (s_ "trellis.sparse" 1900) none (r_ 1344) n_ 0), a_ []⟩),
  (1346, ⟨(.type "tuple"), none, (.seq (a_ []) 0), a_ []⟩),
  (1347, ⟨(.type "builtin_function_or_method"), none, (.fields (a_ ([(.builtin "type.__prepare__"), (.type "type")]))), a_ []⟩),
  (1348, ⟨(.type "dict"), none, (.dict (a_ ([e_ w "__module__" 2030 (s_ "trellis.widths" 2021), e_ w "__qualname__" 2032 (s_ "OrderFinder" 2031), e_ w "__firstlineno__" 2034 (.int 1333 2033), e_ w "__init__" 2042 (r_ 1359), e_ w "later" 2048 (r_ 1364), e_ w "best" 2054 (r_ 1369), e_ w "__static_attributes__" 2057 (r_ 1370)])) 7), a_ []⟩),
  (1349, ⟨(.type "tuple"), none, (.seq (a_ []) 0), a_ []⟩),
  (1350, ⟨n_, none, (.fields (a_ ([(.int 1335 0), (.int 4 0), (r_ 1358), (.int 1339 0), (.int 4 0), (r_ 1363), (.int 1351 0), (.int 4 0), (r_ 1368)]))), a_ []⟩),
  (1351, ⟨(.type "code"), none, (.fields (a_ ([(s_ "OrderFinder" 2025), (s_ "OrderFinder" 2026), (s_ "/claim/cut.py" 2027), (.int 1333 0), (.int 0 0), (.int 0 0), (.int 0 0), (.int 0 0), (r_ 1349), (.bool false), (.int 181 0), (r_ 1350), n_, n_, n_, n_, (.int 2028 0), (.int 1333 0), (s_ "/claim/cut.py" 2029)]))), a_ []⟩),
  (1352, ⟨(.type "frame"), none, .plain, a_ ([some (r_ 1351), some (r_ 3), some (r_ 1348), none, some (s_ "trellis.widths" 2021), none, some (r_ 0)])⟩),
  (1353, ⟨(.type "tuple"), none, (.seq (a_ []) 0), a_ []⟩),
  (1354, ⟨n_, none, (.fields (a_ [])), a_ []⟩),
  (1355, ⟨(.type "tuple"), none, (.seq (a_ ([(s_ "self" 2038), (s_ "graph" 2039)])) 0), a_ []⟩),
  (1356, ⟨(.type "tuple"), none, (.seq (a_ []) 0), a_ []⟩),
  (1357, ⟨n_, none, (f_ (inClass (top 216) 0) "__init__" "OrderFinder.__init__" 0 n_ n_ n_ n_ none n_ n_ 0), a_ []⟩),
  (1358, ⟨(.type "code"), none, (.fields (a_ ([(s_ "__init__" 2035), (s_ "OrderFinder.__init__" 2036), (s_ "/claim/cut.py" 2037), (.int 1335 0), (.int 2 0), (.int 0 0), (.int 0 0), (.int 3 0), (r_ 1353), (.bool true), (.int 181 0), (r_ 1354), n_, (r_ 1355), (r_ 1356), (r_ 1357), (.int 2040 0), (.int 1335 0), (s_ "/claim/cut.py" 2041)]))), a_ []⟩),
  (1359, ⟨(.type "function"), none, (f_ (inClass (top 216) 0) "__init__" "OrderFinder.__init__" 3 n_ n_ n_ (s_ "trellis.widths" 2021) none (r_ 1358) n_ 0), a_ []⟩)]
def nw4_5 (w : World) : List (Nat × Obj) := [
  (1360, ⟨(.type "tuple"), none, (.seq (a_ []) 0), a_ []⟩),
  (1361, ⟨n_, none, (.fields (a_ [])), a_ []⟩),
  (1362, ⟨n_, none, (f_ (inClass (top 216) 1) "later" "OrderFinder.later" 0 n_ n_ n_ n_ none n_ n_ 0), a_ []⟩),
  (1363, ⟨(.type "code"), none, (.fields (a_ ([(s_ "later" 2043), (s_ "OrderFinder.later" 2044), (s_ "/claim/cut.py" 2045), (.int 1339 0), (.int 3 0), (.int 0 0), (.int 0 0), (.int 3 0), (r_ 1360), (.bool true), (.int 181 0), (r_ 1361), n_, n_, n_, (r_ 1362), (.int 2046 0), (.int 1339 0), (s_ "/claim/cut.py" 2047)]))), a_ []⟩),
  (1364, ⟨(.type "function"), none, (f_ (inClass (top 216) 1) "later" "OrderFinder.later" 3 n_ n_ n_ (s_ "trellis.widths" 2021) none (r_ 1363) n_ 0), a_ []⟩),
  (1365, ⟨(.type "tuple"), none, (.seq (a_ []) 0), a_ []⟩),
  (1366, ⟨n_, none, (.fields (a_ [])), a_ []⟩),
  (1367, ⟨n_, none, (f_ (inClass (top 216) 2) "best" "OrderFinder.best" 0 n_ n_ n_ n_ none n_ n_ 0), a_ []⟩),
  (1368, ⟨(.type "code"), none, (.fields (a_ ([(s_ "best" 2049), (s_ "OrderFinder.best" 2050), (s_ "/claim/cut.py" 2051), (.int 1351 0), (.int 2 0), (.int 0 0), (.int 0 0), (.int 3 0), (r_ 1365), (.bool true), (.int 181 0), (r_ 1366), n_, n_, n_, (r_ 1367), (.int 2052 0), (.int 1351 0), (s_ "/claim/cut.py" 2053)]))), a_ []⟩),
  (1369, ⟨(.type "function"), none, (f_ (inClass (top 216) 2) "best" "OrderFinder.best" 3 n_ n_ n_ (s_ "trellis.widths" 2021) none (r_ 1368) n_ 0), a_ []⟩),
  (1370, ⟨(.type "tuple"), none, (.seq (a_ ([(s_ "graph" 2055), (s_ "known" 2056)])) 0), a_ []⟩),
  (1371, ⟨(.type "dict"), none, (.dict (a_ ([e_ w "__module__" 2030 (s_ "trellis.widths" 2021), e_ w "__firstlineno__" 2034 (.int 1333 2033), e_ w "__init__" 2042 (r_ 1359), e_ w "later" 2048 (r_ 1364), e_ w "best" 2054 (r_ 1369), e_ w "__static_attributes__" 2057 (r_ 1370), e_ w "__dict__" 2059 (r_ 1373), e_ w "__weakref__" 2061 (r_ 1374), e_ w "__doc__" 2062 n_])) 4), a_ []⟩),
  (1372, ⟨(.type "type"), none, (.cls ⟨(z "OrderFinder"), ([(.type "object")]), ([(r_ 1372), (.type "object")]), 1371, (z "OrderFinder"), true, [], [], false, none, false⟩), a_ ([none, none, some (s_ "OrderFinder" 2023), some (s_ "OrderFinder" 2031), some (.builtin "object.__new__"), some (.bool true)])⟩),
  (1373, ⟨(.type "getset_descriptor"), none, (.fields (a_ ([(s_ "__dict__" 2058), (r_ 1372), (.builtin "function.__dict__"), (.builtin "function.__dict__#set")]))), a_ []⟩),
  (1374, ⟨(.type "getset_descriptor"), none, (.fields (a_ ([(s_ "__weakref__" 2060), (r_ 1372), (.builtin "ExceptionGroup.__weakref__"), n_]))), a_ []⟩),
  (1375, ⟨(.type "super"), none, (.fields (a_ ([(r_ 1372), (r_ 1372), (r_ 1372)]))), a_ []⟩),
  (1376, ⟨(.type "builtin_function_or_method"), none, (.fields (a_ ([(.builtin "object.__init_subclass__"), (r_ 1372)]))), a_ []⟩),
  (1377, ⟨(.type "tuple"), none, (.seq (a_ []) 0), a_ []⟩),
  (1378, ⟨(.type "builtin_function_or_method"), none, (.fields (a_ ([(.builtin "type.__prepare__"), (.type "type")]))), a_ []⟩),
  (1379, ⟨(.type "dict"), none, (.dict (a_ ([e_ w "__module__" 2072 (s_ "trellis.widths" 2021), e_ w "__qualname__" 2074 (s_ "BrambleFinder" 2073), e_ w "__firstlineno__" 2076 (.int 1360 2075), e_ w "__init__" 2087 (r_ 1390), e_ w "bramble" 2093 (r_ 1395), e_ w "__static_attributes__" 2096 (r_ 1396)])) 6), a_ []⟩),
  (1380, ⟨(.type "tuple"), none, (.seq (a_ []) 0), a_ []⟩),
  (1381, ⟨n_, none, (.fields (a_ ([(.int 1362 0), (.int 4 0), (r_ 1389), (.int 1371 0), (.int 4 0), (r_ 1394)]))), a_ []⟩),
  (1382, ⟨(.type "code"), none, (.fields (a_ ([(s_ "BrambleFinder" 2067), (s_ "BrambleFinder" 2068), (s_ "/claim/cut.py" 2069), (.int 1360 0), (.int 0 0), (.int 0 0), (.int 0 0), (.int 0 0), (r_ 1380), (.bool false), (.int 181 0), (r_ 1381), n_, n_, n_, n_, (.int 2070 0), (.int 1360 0), (s_ "/claim/cut.py" 2071)]))), a_ []⟩),
  (1383, ⟨(.type "frame"), none, .plain, a_ ([some (r_ 1382), some (r_ 3), some (r_ 1379), none, some (s_ "trellis.widths" 2021), none, some (r_ 0)])⟩),
  (1384, ⟨(.type "tuple"), none, (.seq (a_ []) 0), a_ []⟩)]
def nw4_6 (w : World) : List (Nat × Obj) := [
  (1385, ⟨n_, none, (.fields (a_ [])), a_ []⟩),
  (1386, ⟨(.type "tuple"), none, (.seq (a_ ([(s_ "self" 2080), (s_ "graph" 2081), (s_ "size" 2082), (s_ "members" 2083), (s_ "parts" 2084)])) 0), a_ []⟩),
  (1387, ⟨(.type "tuple"), none, (.seq (a_ []) 0), a_ []⟩),
  (1388, ⟨n_, none, (f_ (inClass (top 217) 0) "__init__" "BrambleFinder.__init__" 0 n_ n_ n_ n_ none n_ n_ 0), a_ []⟩),
  (1389, ⟨(.type "code"), none, (.fields (a_ ([(s_ "__init__" 2077), (s_ "BrambleFinder.__init__" 2078), (s_ "/claim/cut.py" 2079), (.int 1362 0), (.int 3 0), (.int 0 0), (.int 0 0), (.int 3 0), (r_ 1384), (.bool true), (.int 181 0), (r_ 1385), n_, (r_ 1386), (r_ 1387), (r_ 1388), (.int 2085 0), (.int 1362 0), (s_ "/claim/cut.py" 2086)]))), a_ []⟩),
  (1390, ⟨(.type "function"), none, (f_ (inClass (top 217) 0) "__init__" "BrambleFinder.__init__" 3 n_ n_ n_ (s_ "trellis.widths" 2021) none (r_ 1389) n_ 0), a_ []⟩),
  (1391, ⟨(.type "tuple"), none, (.seq (a_ []) 0), a_ []⟩),
  (1392, ⟨n_, none, (.fields (a_ [])), a_ []⟩),
  (1393, ⟨n_, none, (f_ (inClass (top 217) 1) "bramble" "BrambleFinder.bramble" 0 n_ n_ n_ n_ none n_ n_ 0), a_ []⟩),
  (1394, ⟨(.type "code"), none, (.fields (a_ ([(s_ "bramble" 2088), (s_ "BrambleFinder.bramble" 2089), (s_ "/claim/cut.py" 2090), (.int 1371 0), (.int 3 0), (.int 0 0), (.int 0 0), (.int 3 0), (r_ 1391), (.bool true), (.int 181 0), (r_ 1392), n_, n_, n_, (r_ 1393), (.int 2091 0), (.int 1371 0), (s_ "/claim/cut.py" 2092)]))), a_ []⟩),
  (1395, ⟨(.type "function"), none, (f_ (inClass (top 217) 1) "bramble" "BrambleFinder.bramble" 3 n_ n_ n_ (s_ "trellis.widths" 2021) none (r_ 1394) n_ 0), a_ []⟩),
  (1396, ⟨(.type "tuple"), none, (.seq (a_ ([(s_ "choices" 2094), (s_ "graph" 2095)])) 0), a_ []⟩),
  (1397, ⟨(.type "dict"), none, (.dict (a_ ([e_ w "__module__" 2072 (s_ "trellis.widths" 2021), e_ w "__firstlineno__" 2076 (.int 1360 2075), e_ w "__init__" 2087 (r_ 1390), e_ w "bramble" 2093 (r_ 1395), e_ w "__static_attributes__" 2096 (r_ 1396), e_ w "__dict__" 2098 (r_ 1399), e_ w "__weakref__" 2100 (r_ 1400), e_ w "__doc__" 2101 n_])) 4), a_ []⟩),
  (1398, ⟨(.type "type"), none, (.cls ⟨(z "BrambleFinder"), ([(.type "object")]), ([(r_ 1398), (.type "object")]), 1397, (z "BrambleFinder"), true, [], [], false, none, false⟩), a_ ([none, none, some (s_ "BrambleFinder" 2065), some (s_ "BrambleFinder" 2073), some (.builtin "object.__new__"), some (.bool true)])⟩),
  (1399, ⟨(.type "getset_descriptor"), none, (.fields (a_ ([(s_ "__dict__" 2097), (r_ 1398), (.builtin "function.__dict__"), (.builtin "function.__dict__#set")]))), a_ []⟩),
  (1400, ⟨(.type "getset_descriptor"), none, (.fields (a_ ([(s_ "__weakref__" 2099), (r_ 1398), (.builtin "ExceptionGroup.__weakref__"), n_]))), a_ []⟩),
  (1401, ⟨(.type "super"), none, (.fields (a_ ([(r_ 1398), (r_ 1398), (r_ 1398)]))), a_ []⟩),
  (1402, ⟨(.type "builtin_function_or_method"), none, (.fields (a_ ([(.builtin "object.__init_subclass__"), (r_ 1398)]))), a_ []⟩),
  (1403, ⟨(.type "tuple"), none, (.seq (a_ []) 0), a_ []⟩),
  (1404, ⟨n_, none, (.fields (a_ [])), a_ []⟩),
  (1405, ⟨(.type "tuple"), none, (.seq (a_ ([(s_ "graph" 2107)])) 0), a_ []⟩),
  (1406, ⟨(.type "tuple"), none, (.seq (a_ []) 0), a_ []⟩),
  (1407, ⟨n_, none, (f_ (top 218) "least_order" "least_order" 0 n_ n_ n_ n_ none n_ n_ 0), a_ []⟩),
  (1408, ⟨(.type "code"), none, (.fields (a_ ([(s_ "least_order" 2104), (s_ "least_order" 2105), (s_ "/claim/cut.py" 2106), (.int 1382 0), (.int 1 0), (.int 0 0), (.int 0 0), (.int 3 0), (r_ 1403), (.bool true), (.int 181 0), (r_ 1404), n_, (r_ 1405), (r_ 1406), (r_ 1407), (.int 2108 0), (.int 1382 0), (s_ "/claim/cut.py" 2109)]))), a_ []⟩),
  (1409, ⟨(.type "function"), none, (f_ (top 218) "least_order" "least_order" 3 n_ n_ n_ (s_ "trellis.widths" 2021) none (r_ 1408) n_ 0), a_ []⟩)]
def nw4_7 (w : World) : List (Nat × Obj) := [
  (1410, ⟨(.type "tuple"), none, (.seq (a_ []) 0), a_ []⟩),
  (1411, ⟨n_, none, (.fields (a_ [])), a_ []⟩),
  (1412, ⟨(.type "tuple"), none, (.seq (a_ ([(s_ "graph" 2114), (s_ "k" 2115), (s_ "order" 2116)])) 0), a_ []⟩),
  (1413, ⟨(.type "tuple"), none, (.seq (a_ []) 0), a_ []⟩),
  (1414, ⟨n_, none, (f_ (top 219) "decide_width" "decide_width" 0 n_ n_ n_ n_ none n_ n_ 0), a_ []⟩),
  (1415, ⟨(.type "code"), none, (.fields (a_ ([(s_ "decide_width" 2111), (s_ "decide_width" 2112), (s_ "/claim/cut.py" 2113), (.int 1384 0), (.int 2 0), (.int 0 0), (.int 0 0), (.int 3 0), (r_ 1410), (.bool true), (.int 181 0), (r_ 1411), n_, (r_ 1412), (r_ 1413), (r_ 1414), (.int 2117 0), (.int 1384 0), (s_ "/claim/cut.py" 2118)]))), a_ []⟩),
  (1416, ⟨(.type "function"), none, (f_ (top 219) "decide_width" "decide_width" 3 n_ n_ n_ (s_ "trellis.widths" 2021) none (r_ 1415) n_ 0), a_ []⟩),
  (1417, ⟨(.type "tuple"), none, (.seq (a_ []) 0), a_ []⟩),
  (1418, ⟨n_, none, (.fields (a_ [])), a_ []⟩),
  (1419, ⟨(.type "tuple"), none, (.seq (a_ ([(s_ "graph" 2125), (s_ "kind" 2126)])) 0), a_ []⟩),
  (1420, ⟨(.type "tuple"), none, (.seq (a_ []) 0), a_ []⟩),
  (1421, ⟨n_, none, (f_ (top 221) "decide_plain" "decide_plain" 0 n_ n_ n_ n_ none n_ n_ 0), a_ []⟩),
  (1422, ⟨(.type "code"), none, (.fields (a_ ([(s_ "decide_plain" 2122), (s_ "decide_plain" 2123), (s_ "/claim/cut.py" 2124), (.int 1390 0), (.int 2 0), (.int 0 0), (.int 0 0), (.int 3 0), (r_ 1417), (.bool true), (.int 181 0), (r_ 1418), n_, (r_ 1419), (r_ 1420), (r_ 1421), (.int 2127 0), (.int 1390 0), (s_ "/claim/cut.py" 2128)]))), a_ []⟩),
  (1423, ⟨(.type "function"), none, (f_ (top 221) "decide_plain" "decide_plain" 3 n_ n_ n_ (s_ "trellis.deciding" 2120) none (r_ 1422) n_ 0), a_ []⟩),
  (1424, ⟨(.type "tuple"), none, (.seq (a_ []) 0), a_ []⟩),
  (1425, ⟨n_, none, (.fields (a_ [])), a_ []⟩),
  (1426, ⟨(.type "tuple"), none, (.seq (a_ ([(s_ "graph" 2133), (s_ "kind" 2134), (s_ "k" 2135)])) 0), a_ []⟩),
  (1427, ⟨(.type "tuple"), none, (.seq (a_ []) 0), a_ []⟩),
  (1428, ⟨n_, none, (f_ (top 222) "decide_numbered" "decide_numbered" 0 n_ n_ n_ n_ none n_ n_ 0), a_ []⟩),
  (1429, ⟨(.type "code"), none, (.fields (a_ ([(s_ "decide_numbered" 2130), (s_ "decide_numbered" 2131), (s_ "/claim/cut.py" 2132), (.int 1412 0), (.int 3 0), (.int 0 0), (.int 0 0), (.int 3 0), (r_ 1424), (.bool true), (.int 181 0), (r_ 1425), n_, (r_ 1426), (r_ 1427), (r_ 1428), (.int 2136 0), (.int 1412 0), (s_ "/claim/cut.py" 2137)]))), a_ []⟩),
  (1430, ⟨(.type "function"), none, (f_ (top 222) "decide_numbered" "decide_numbered" 3 n_ n_ n_ (s_ "trellis.deciding" 2120) none (r_ 1429) n_ 0), a_ []⟩),
  (1431, ⟨(.type "tuple"), none, (.seq (a_ []) 0), a_ []⟩),
  (1432, ⟨n_, none, (.fields (a_ [])), a_ []⟩),
  (1433, ⟨(.type "tuple"), none, (.seq (a_ ([(s_ "graph" 2142), (s_ "question" 2143), (s_ "kind" 2144)])) 0), a_ []⟩),
  (1434, ⟨(.type "tuple"), none, (.seq (a_ []) 0), a_ []⟩)]
def nw4_8 (w : World) : List (Nat × Obj) := [
  (1435, ⟨n_, none, (f_ (top 223) "decide" "decide" 0 n_ n_ n_ n_ none n_ n_ 0), a_ []⟩),
  (1436, ⟨(.type "code"), none, (.fields (a_ ([(s_ "decide" 2139), (s_ "decide" 2140), (s_ "/claim/cut.py" 2141), (.int 1428 0), (.int 2 0), (.int 0 0), (.int 0 0), (.int 3 0), (r_ 1431), (.bool true), (.int 181 0), (r_ 1432), n_, (r_ 1433), (r_ 1434), (r_ 1435), (.int 2145 0), (.int 1428 0), (s_ "/claim/cut.py" 2146)]))), a_ []⟩),
  (1437, ⟨(.type "function"), none, (f_ (top 223) "decide" "decide" 3 n_ n_ n_ (s_ "trellis.deciding" 2120) none (r_ 1436) n_ 0), a_ []⟩),
  (1438, ⟨(.type "tuple"), none, (.seq (a_ []) 0), a_ []⟩),
  (1439, ⟨n_, none, (.fields (a_ [])), a_ []⟩),
  (1440, ⟨(.type "tuple"), none, (.seq (a_ ([(s_ "graph" 2153), (s_ "kind" 2154), (s_ "answer" 2155), (s_ "data" 2156)])) 0), a_ []⟩),
  (1441, ⟨(.type "tuple"), none, (.seq (a_ []) 0), a_ []⟩),
  (1442, ⟨n_, none, (f_ (top 225) "check_plain" "check_plain" 0 n_ n_ n_ n_ none n_ n_ 0), a_ []⟩),
  (1443, ⟨(.type "code"), none, (.fields (a_ ([(s_ "check_plain" 2150), (s_ "check_plain" 2151), (s_ "/claim/cut.py" 2152), (.int 1437 0), (.int 4 0), (.int 0 0), (.int 0 0), (.int 3 0), (r_ 1438), (.bool true), (.int 181 0), (r_ 1439), n_, (r_ 1440), (r_ 1441), (r_ 1442), (.int 2157 0), (.int 1437 0), (s_ "/claim/cut.py" 2158)]))), a_ []⟩),
  (1444, ⟨(.type "function"), none, (f_ (top 225) "check_plain" "check_plain" 3 n_ n_ n_ (s_ "trellis.checking" 2148) none (r_ 1443) n_ 0), a_ []⟩),
  (1445, ⟨(.type "tuple"), none, (.seq (a_ []) 0), a_ []⟩),
  (1446, ⟨n_, none, (.fields (a_ [])), a_ []⟩),
  (1447, ⟨(.type "tuple"), none, (.seq (a_ ([(s_ "graph" 2163), (s_ "question" 2164), (s_ "answer" 2165), (s_ "data" 2166), (s_ "kind" 2167), (s_ "k" 2168)])) 0), a_ []⟩),
  (1448, ⟨(.type "tuple"), none, (.seq (a_ []) 0), a_ []⟩),
  (1449, ⟨n_, none, (f_ (top 226) "check_numbered" "check_numbered" 0 n_ n_ n_ n_ none n_ n_ 0), a_ []⟩),
  (1450, ⟨(.type "code"), none, (.fields (a_ ([(s_ "check_numbered" 2160), (s_ "check_numbered" 2161), (s_ "/claim/cut.py" 2162), (.int 1461 0), (.int 4 0), (.int 0 0), (.int 0 0), (.int 3 0), (r_ 1445), (.bool true), (.int 181 0), (r_ 1446), n_, (r_ 1447), (r_ 1448), (r_ 1449), (.int 2169 0), (.int 1461 0), (s_ "/claim/cut.py" 2170)]))), a_ []⟩),
  (1451, ⟨(.type "function"), none, (f_ (top 226) "check_numbered" "check_numbered" 3 n_ n_ n_ (s_ "trellis.checking" 2148) none (r_ 1450) n_ 0), a_ []⟩),
  (1452, ⟨(.type "tuple"), none, (.seq (a_ []) 0), a_ []⟩),
  (1453, ⟨n_, none, (.fields (a_ [])), a_ []⟩),
  (1454, ⟨(.type "tuple"), none, (.seq (a_ ([(s_ "graph" 2175), (s_ "question" 2176), (s_ "paper" 2177), (s_ "answer" 2178), (s_ "data" 2179)])) 0), a_ []⟩),
  (1455, ⟨(.type "tuple"), none, (.seq (a_ []) 0), a_ []⟩),
  (1456, ⟨n_, none, (f_ (top 227) "check" "check" 0 n_ n_ n_ n_ none n_ n_ 0), a_ []⟩),
  (1457, ⟨(.type "code"), none, (.fields (a_ ([(s_ "check" 2172), (s_ "check" 2173), (s_ "/claim/cut.py" 2174), (.int 1480 0), (.int 3 0), (.int 0 0), (.int 0 0), (.int 3 0), (r_ 1452), (.bool true), (.int 181 0), (r_ 1453), n_, (r_ 1454), (r_ 1455), (r_ 1456), (.int 2180 0), (.int 1480 0), (s_ "/claim/cut.py" 2181)]))), a_ []⟩),
  (1458, ⟨(.type "function"), none, (f_ (top 227) "check" "check" 3 n_ n_ n_ (s_ "trellis.checking" 2148) none (r_ 1457) n_ 0), a_ []⟩),
  (1459, ⟨(.type "tuple"), none, (.seq (a_ []) 0), a_ []⟩)]
def nw4_9 (w : World) : List (Nat × Obj) := [
  (1460, ⟨n_, none, (.fields (a_ [])), a_ []⟩),
  (1461, ⟨(.type "tuple"), none, (.seq (a_ ([(s_ "_law_script" 2188), (s_ "_law_salt" 2189), (s_ "_law_cell" 2190)])) 0), a_ []⟩),
  (1462, ⟨(.type "tuple"), none, (.seq (a_ []) 0), a_ []⟩),
  (1463, ⟨n_, none, (f_ (top 229) "_law_pool" "_law_pool" 0 n_ n_ n_ n_ none n_ n_ 0), a_ []⟩),
  (1464, ⟨(.type "code"), none, (.fields (a_ ([(s_ "_law_pool" 2185), (s_ "_law_pool" 2186), (s_ "/claim/cut.py" 2187), (.int 1491 0), (.int 1 0), (.int 0 0), (.int 0 0), (.int 3 0), (r_ 1459), (.bool true), (.int 181 0), (r_ 1460), n_, (r_ 1461), (r_ 1462), (r_ 1463), (.int 2191 0), (.int 1491 0), (s_ "/claim/cut.py" 2192)]))), a_ []⟩),
  (1465, ⟨(.type "function"), none, (f_ (top 229) "_law_pool" "_law_pool" 3 n_ n_ n_ (s_ "law_trellis_k34_chordal_graphs" 2183) none (r_ 1464) n_ 0), a_ []⟩),
  (1466, ⟨(.type "tuple"), none, (.seq (a_ []) 0), a_ []⟩),
  (1467, ⟨n_, none, (.fields (a_ [])), a_ []⟩),
  (1468, ⟨(.type "tuple"), none, (.seq (a_ ([(s_ "_law_cell" 2197), (s_ "_law_mixed" 2198), (s_ "_law_total" 2199), (s_ "_law_k" 2200)])) 0), a_ []⟩),
  (1469, ⟨(.type "tuple"), none, (.seq (a_ []) 0), a_ []⟩),
  (1470, ⟨n_, none, (f_ (top 230) "_law_spread" "_law_spread" 0 n_ n_ n_ n_ none n_ n_ 0), a_ []⟩),
  (1471, ⟨(.type "code"), none, (.fields (a_ ([(s_ "_law_spread" 2194), (s_ "_law_spread" 2195), (s_ "/claim/cut.py" 2196), (.int 1496 0), (.int 1 0), (.int 0 0), (.int 0 0), (.int 3 0), (r_ 1466), (.bool true), (.int 181 0), (r_ 1467), n_, (r_ 1468), (r_ 1469), (r_ 1470), (.int 2201 0), (.int 1496 0), (s_ "/claim/cut.py" 2202)]))), a_ []⟩),
  (1472, ⟨(.type "function"), none, (f_ (top 230) "_law_spread" "_law_spread" 3 n_ n_ n_ (s_ "law_trellis_k34_chordal_graphs" 2183) none (r_ 1471) n_ 0), a_ []⟩),
  (1473, ⟨(.type "tuple"), none, (.seq (a_ []) 0), a_ []⟩),
  (1474, ⟨n_, none, (.fields (a_ [])), a_ []⟩),
  (1475, ⟨(.type "tuple"), none, (.seq (a_ ([(s_ "_law_pool_here" 2207), (s_ "_law_many" 2208), (s_ "_law_cell" 2209), (s_ "_law_mixed" 2210), (s_ "_law_value" 2211)])) 0), a_ []⟩),
  (1476, ⟨(.type "tuple"), none, (.seq (a_ []) 0), a_ []⟩),
  (1477, ⟨n_, none, (f_ (top 231) "_law_draw" "_law_draw" 0 n_ n_ n_ n_ none n_ n_ 0), a_ []⟩),
  (1478, ⟨(.type "code"), none, (.fields (a_ ([(s_ "_law_draw" 2204), (s_ "_law_draw" 2205), (s_ "/claim/cut.py" 2206), (.int 1503 0), (.int 2 0), (.int 0 0), (.int 0 0), (.int 3 0), (r_ 1473), (.bool true), (.int 181 0), (r_ 1474), n_, (r_ 1475), (r_ 1476), (r_ 1477), (.int 2212 0), (.int 1503 0), (s_ "/claim/cut.py" 2213)]))), a_ []⟩),
  (1479, ⟨(.type "function"), none, (f_ (top 231) "_law_draw" "_law_draw" 3 n_ n_ n_ (s_ "law_trellis_k34_chordal_graphs" 2183) none (r_ 1478) n_ 0), a_ []⟩),
  (1480, ⟨(.type "tuple"), none, (.seq (a_ []) 0), a_ []⟩),
  (1481, ⟨n_, none, (.fields (a_ [])), a_ []⟩),
  (1482, ⟨(.type "tuple"), none, (.seq (a_ ([(s_ "_law_x" 2218)])) 0), a_ []⟩),
  (1483, ⟨(.type "tuple"), none, (.seq (a_ []) 0), a_ []⟩),
  (1484, ⟨n_, none, (f_ (top 232) "_law_is_int" "_law_is_int" 0 n_ n_ n_ n_ none n_ n_ 0), a_ []⟩)]
def nw4_10 (w : World) : List (Nat × Obj) := [
  (1485, ⟨(.type "code"), none, (.fields (a_ ([(s_ "_law_is_int" 2215), (s_ "_law_is_int" 2216), (s_ "/claim/cut.py" 2217), (.int 1518 0), (.int 1 0), (.int 0 0), (.int 0 0), (.int 3 0), (r_ 1480), (.bool true), (.int 181 0), (r_ 1481), n_, (r_ 1482), (r_ 1483), (r_ 1484), (.int 2219 0), (.int 1518 0), (s_ "/claim/cut.py" 2220)]))), a_ []⟩),
  (1486, ⟨(.type "function"), none, (f_ (top 232) "_law_is_int" "_law_is_int" 3 n_ n_ n_ (s_ "law_trellis_k34_chordal_graphs" 2183) none (r_ 1485) n_ 0), a_ []⟩),
  (1487, ⟨(.type "tuple"), none, (.seq (a_ []) 0), a_ []⟩),
  (1488, ⟨n_, none, (.fields (a_ [])), a_ []⟩),
  (1489, ⟨(.type "tuple"), none, (.seq (a_ ([(s_ "_law_rows" 2225), (s_ "_law_found" 2226), (s_ "_law_row" 2227)])) 0), a_ []⟩),
  (1490, ⟨(.type "tuple"), none, (.seq (a_ []) 0), a_ []⟩),
  (1491, ⟨n_, none, (f_ (top 233) "_law_distinct" "_law_distinct" 0 n_ n_ n_ n_ none n_ n_ 0), a_ []⟩),
  (1492, ⟨(.type "code"), none, (.fields (a_ ([(s_ "_law_distinct" 2222), (s_ "_law_distinct" 2223), (s_ "/claim/cut.py" 2224), (.int 1520 0), (.int 1 0), (.int 0 0), (.int 0 0), (.int 3 0), (r_ 1487), (.bool true), (.int 181 0), (r_ 1488), n_, (r_ 1489), (r_ 1490), (r_ 1491), (.int 2228 0), (.int 1520 0), (s_ "/claim/cut.py" 2229)]))), a_ []⟩),
  (1493, ⟨(.type "function"), none, (f_ (top 233) "_law_distinct" "_law_distinct" 3 n_ n_ n_ (s_ "law_trellis_k34_chordal_graphs" 2183) none (r_ 1492) n_ 0), a_ []⟩),
  (1494, ⟨(.type "tuple"), none, (.seq (a_ []) 0), a_ []⟩),
  (1495, ⟨n_, none, (.fields (a_ [])), a_ []⟩),
  (1496, ⟨(.type "tuple"), none, (.seq (a_ ([(s_ "_law_n" 2234), (s_ "_law_found" 2235), (s_ "_law_u" 2236), (s_ "_law_v" 2237)])) 0), a_ []⟩),
  (1497, ⟨(.type "tuple"), none, (.seq (a_ []) 0), a_ []⟩),
  (1498, ⟨n_, none, (f_ (top 234) "_law_pairs" "_law_pairs" 0 n_ n_ n_ n_ none n_ n_ 0), a_ []⟩),
  (1499, ⟨(.type "code"), none, (.fields (a_ ([(s_ "_law_pairs" 2231), (s_ "_law_pairs" 2232), (s_ "/claim/cut.py" 2233), (.int 1526 0), (.int 1 0), (.int 0 0), (.int 0 0), (.int 3 0), (r_ 1494), (.bool true), (.int 181 0), (r_ 1495), n_, (r_ 1496), (r_ 1497), (r_ 1498), (.int 2238 0), (.int 1526 0), (s_ "/claim/cut.py" 2239)]))), a_ []⟩),
  (1500, ⟨(.type "function"), none, (f_ (top 234) "_law_pairs" "_law_pairs" 3 n_ n_ n_ (s_ "law_trellis_k34_chordal_graphs" 2183) none (r_ 1499) n_ 0), a_ []⟩),
  (1501, ⟨(.type "tuple"), none, (.seq (a_ []) 0), a_ []⟩),
  (1502, ⟨n_, none, (.fields (a_ [])), a_ []⟩),
  (1503, ⟨n_, none, (f_ (top 235) "_law_of" "_law_of" 0 n_ n_ n_ n_ none n_ n_ 0), a_ []⟩),
  (1504, ⟨(.type "code"), none, (.fields (a_ ([(s_ "_law_of" 2241), (s_ "_law_of" 2242), (s_ "/claim/cut.py" 2243), (.int 1532 0), (.int 2 0), (.int 0 0), (.int 0 0), (.int 3 0), (r_ 1501), (.bool true), (.int 181 0), (r_ 1502), n_, n_, n_, (r_ 1503), (.int 2244 0), (.int 1532 0), (s_ "/claim/cut.py" 2245)]))), a_ []⟩),
  (1505, ⟨(.type "function"), none, (f_ (top 235) "_law_of" "_law_of" 3 n_ n_ n_ (s_ "law_trellis_k34_chordal_graphs" 2183) none (r_ 1504) n_ 0), a_ []⟩),
  (1506, ⟨(.type "tuple"), none, (.seq (a_ []) 0), a_ []⟩),
  (1507, ⟨n_, none, (.fields (a_ [])), a_ []⟩),
  (1508, ⟨(.type "tuple"), none, (.seq (a_ ([(s_ "_law_graph_here" 2250), (s_ "_law_u" 2251), (s_ "_law_v" 2252)])) 0), a_ []⟩),
  (1509, ⟨(.type "tuple"), none, (.seq (a_ []) 0), a_ []⟩)]
def nw4_11 (w : World) : List (Nat × Obj) := [
  (1510, ⟨n_, none, (f_ (top 236) "_law_met" "_law_met" 0 n_ n_ n_ n_ none n_ n_ 0), a_ []⟩),
  (1511, ⟨(.type "code"), none, (.fields (a_ ([(s_ "_law_met" 2247), (s_ "_law_met" 2248), (s_ "/claim/cut.py" 2249), (.int 1534 0), (.int 3 0), (.int 0 0), (.int 0 0), (.int 3 0), (r_ 1506), (.bool true), (.int 181 0), (r_ 1507), n_, (r_ 1508), (r_ 1509), (r_ 1510), (.int 2253 0), (.int 1534 0), (s_ "/claim/cut.py" 2254)]))), a_ []⟩),
  (1512, ⟨(.type "function"), none, (f_ (top 236) "_law_met" "_law_met" 3 n_ n_ n_ (s_ "law_trellis_k34_chordal_graphs" 2183) none (r_ 1511) n_ 0), a_ []⟩),
  (1513, ⟨(.type "tuple"), none, (.seq (a_ []) 0), a_ []⟩),
  (1514, ⟨n_, none, (.fields (a_ [])), a_ []⟩),
  (1515, ⟨n_, none, (f_ (top 237) "_law_near" "_law_near" 0 n_ n_ n_ n_ none n_ n_ 0), a_ []⟩),
  (1516, ⟨(.type "code"), none, (.fields (a_ ([(s_ "_law_near" 2256), (s_ "_law_near" 2257), (s_ "/claim/cut.py" 2258), (.int 1536 0), (.int 2 0), (.int 0 0), (.int 0 0), (.int 3 0), (r_ 1513), (.bool true), (.int 181 0), (r_ 1514), n_, n_, n_, (r_ 1515), (.int 2259 0), (.int 1536 0), (s_ "/claim/cut.py" 2260)]))), a_ []⟩),
  (1517, ⟨(.type "function"), none, (f_ (top 237) "_law_near" "_law_near" 3 n_ n_ n_ (s_ "law_trellis_k34_chordal_graphs" 2183) none (r_ 1516) n_ 0), a_ []⟩),
  (1518, ⟨(.type "tuple"), none, (.seq (a_ []) 0), a_ []⟩),
  (1519, ⟨n_, none, (.fields (a_ [])), a_ []⟩),
  (1520, ⟨(.type "tuple"), none, (.seq (a_ ([(s_ "_law_pool_here" 2265), (s_ "_law_items" 2266), (s_ "_law_rest" 2267), (s_ "_law_found" 2268), (s_ "_law_k" 2269)])) 0), a_ []⟩),
  (1521, ⟨(.type "tuple"), none, (.seq (a_ []) 0), a_ []⟩),
  (1522, ⟨n_, none, (f_ (top 238) "_law_shuffled" "_law_shuffled" 0 n_ n_ n_ n_ none n_ n_ 0), a_ []⟩),
  (1523, ⟨(.type "code"), none, (.fields (a_ ([(s_ "_law_shuffled" 2262), (s_ "_law_shuffled" 2263), (s_ "/claim/cut.py" 2264), (.int 1538 0), (.int 2 0), (.int 0 0), (.int 0 0), (.int 3 0), (r_ 1518), (.bool true), (.int 181 0), (r_ 1519), n_, (r_ 1520), (r_ 1521), (r_ 1522), (.int 2270 0), (.int 1538 0), (s_ "/claim/cut.py" 2271)]))), a_ []⟩),
  (1524, ⟨(.type "function"), none, (f_ (top 238) "_law_shuffled" "_law_shuffled" 3 n_ n_ n_ (s_ "law_trellis_k34_chordal_graphs" 2183) none (r_ 1523) n_ 0), a_ []⟩),
  (1525, ⟨(.type "tuple"), none, (.seq (a_ []) 0), a_ []⟩),
  (1526, ⟨n_, none, (.fields (a_ [])), a_ []⟩),
  (1527, ⟨n_, none, (f_ (top 239) "_law_moved" "_law_moved" 0 n_ n_ n_ n_ none n_ n_ 0), a_ []⟩),
  (1528, ⟨(.type "code"), none, (.fields (a_ ([(s_ "_law_moved" 2273), (s_ "_law_moved" 2274), (s_ "/claim/cut.py" 2275), (.int 1544 0), (.int 2 0), (.int 0 0), (.int 0 0), (.int 3 0), (r_ 1525), (.bool true), (.int 181 0), (r_ 1526), n_, n_, n_, (r_ 1527), (.int 2276 0), (.int 1544 0), (s_ "/claim/cut.py" 2277)]))), a_ []⟩),
  (1529, ⟨(.type "function"), none, (f_ (top 239) "_law_moved" "_law_moved" 3 n_ n_ n_ (s_ "law_trellis_k34_chordal_graphs" 2183) none (r_ 1528) n_ 0), a_ []⟩),
  (1530, ⟨(.type "tuple"), none, (.seq (a_ []) 0), a_ []⟩),
  (1531, ⟨n_, none, (.fields (a_ [])), a_ []⟩),
  (1532, ⟨n_, none, (f_ (top 240) "_law_other" "_law_other" 0 n_ n_ n_ n_ none n_ n_ 0), a_ []⟩),
  (1533, ⟨(.type "code"), none, (.fields (a_ ([(s_ "_law_other" 2279), (s_ "_law_other" 2280), (s_ "/claim/cut.py" 2281), (.int 1546 0), (.int 1 0), (.int 0 0), (.int 0 0), (.int 3 0), (r_ 1530), (.bool true), (.int 181 0), (r_ 1531), n_, n_, n_, (r_ 1532), (.int 2282 0), (.int 1546 0), (s_ "/claim/cut.py" 2283)]))), a_ []⟩),
  (1534, ⟨(.type "function"), none, (f_ (top 240) "_law_other" "_law_other" 3 n_ n_ n_ (s_ "law_trellis_k34_chordal_graphs" 2183) none (r_ 1533) n_ 0), a_ []⟩)]
def nw4_12 (w : World) : List (Nat × Obj) := [
  (1535, ⟨(.type "tuple"), none, (.seq (a_ []) 0), a_ []⟩),
  (1536, ⟨n_, none, (.fields (a_ [])), a_ []⟩),
  (1537, ⟨n_, none, (f_ (top 241) "_law_random_graph" "_law_random_graph" 0 n_ n_ n_ n_ none n_ n_ 0), a_ []⟩),
  (1538, ⟨(.type "code"), none, (.fields (a_ ([(s_ "_law_random_graph" 2285), (s_ "_law_random_graph" 2286), (s_ "/claim/cut.py" 2287), (.int 1548 0), (.int 2 0), (.int 0 0), (.int 0 0), (.int 3 0), (r_ 1535), (.bool true), (.int 181 0), (r_ 1536), n_, n_, n_, (r_ 1537), (.int 2288 0), (.int 1548 0), (s_ "/claim/cut.py" 2289)]))), a_ []⟩),
  (1539, ⟨(.type "function"), none, (f_ (top 241) "_law_random_graph" "_law_random_graph" 3 n_ n_ n_ (s_ "law_trellis_k34_chordal_graphs" 2183) none (r_ 1538) n_ 0), a_ []⟩),
  (1540, ⟨(.type "tuple"), none, (.seq (a_ []) 0), a_ []⟩),
  (1541, ⟨n_, none, (.fields (a_ [])), a_ []⟩),
  (1542, ⟨(.type "tuple"), none, (.seq (a_ ([(s_ "_law_pool_here" 2294), (s_ "_law_n" 2295), (s_ "_law_rows" 2296), (s_ "_law_k" 2297), (s_ "_law_start" 2298)])) 0), a_ []⟩),
  (1543, ⟨(.type "tuple"), none, (.seq (a_ []) 0), a_ []⟩),
  (1544, ⟨n_, none, (f_ (top 242) "_law_interval_rows" "_law_interval_rows" 0 n_ n_ n_ n_ none n_ n_ 0), a_ []⟩),
  (1545, ⟨(.type "code"), none, (.fields (a_ ([(s_ "_law_interval_rows" 2291), (s_ "_law_interval_rows" 2292), (s_ "/claim/cut.py" 2293), (.int 1552 0), (.int 2 0), (.int 0 0), (.int 0 0), (.int 3 0), (r_ 1540), (.bool true), (.int 181 0), (r_ 1541), n_, (r_ 1542), (r_ 1543), (r_ 1544), (.int 2299 0), (.int 1552 0), (s_ "/claim/cut.py" 2300)]))), a_ []⟩),
  (1546, ⟨(.type "function"), none, (f_ (top 242) "_law_interval_rows" "_law_interval_rows" 3 n_ n_ n_ (s_ "law_trellis_k34_chordal_graphs" 2183) none (r_ 1545) n_ 0), a_ []⟩),
  (1547, ⟨(.type "tuple"), none, (.seq (a_ []) 0), a_ []⟩),
  (1548, ⟨n_, none, (.fields (a_ [])), a_ []⟩),
  (1549, ⟨n_, none, (f_ (top 243) "_law_interval_graph" "_law_interval_graph" 0 n_ n_ n_ n_ none n_ n_ 0), a_ []⟩),
  (1550, ⟨(.type "code"), none, (.fields (a_ ([(s_ "_law_interval_graph" 2302), (s_ "_law_interval_graph" 2303), (s_ "/claim/cut.py" 2304), (.int 1558 0), (.int 1 0), (.int 0 0), (.int 0 0), (.int 3 0), (r_ 1547), (.bool true), (.int 181 0), (r_ 1548), n_, n_, n_, (r_ 1549), (.int 2305 0), (.int 1558 0), (s_ "/claim/cut.py" 2306)]))), a_ []⟩),
  (1551, ⟨(.type "function"), none, (f_ (top 243) "_law_interval_graph" "_law_interval_graph" 3 n_ n_ n_ (s_ "law_trellis_k34_chordal_graphs" 2183) none (r_ 1550) n_ 0), a_ []⟩),
  (1552, ⟨(.type "tuple"), none, (.seq (a_ []) 0), a_ []⟩),
  (1553, ⟨n_, none, (.fields (a_ [])), a_ []⟩),
  (1554, ⟨(.type "tuple"), none, (.seq (a_ ([(s_ "_law_one" 2311), (s_ "_law_two" 2312), (s_ "_law_first" 2313), (s_ "_law_second" 2314), (s_ "_law_found" 2315), (s_ "_law_u" 2316), (s_ "_law_v" 2317)])) 0), a_ []⟩),
  (1555, ⟨(.type "tuple"), none, (.seq (a_ []) 0), a_ []⟩),
  (1556, ⟨n_, none, (f_ (top 244) "_law_turned_graph" "_law_turned_graph" 0 n_ n_ n_ n_ none n_ n_ 0), a_ []⟩),
  (1557, ⟨(.type "code"), none, (.fields (a_ ([(s_ "_law_turned_graph" 2308), (s_ "_law_turned_graph" 2309), (s_ "/claim/cut.py" 2310), (.int 1560 0), (.int 2 0), (.int 0 0), (.int 0 0), (.int 3 0), (r_ 1552), (.bool true), (.int 181 0), (r_ 1553), n_, (r_ 1554), (r_ 1555), (r_ 1556), (.int 2318 0), (.int 1560 0), (s_ "/claim/cut.py" 2319)]))), a_ []⟩),
  (1558, ⟨(.type "function"), none, (f_ (top 244) "_law_turned_graph" "_law_turned_graph" 3 n_ n_ n_ (s_ "law_trellis_k34_chordal_graphs" 2183) none (r_ 1557) n_ 0), a_ []⟩),
  (1559, ⟨(.type "tuple"), none, (.seq (a_ []) 0), a_ []⟩)]
def nw4_13 (w : World) : List (Nat × Obj) := [
  (1560, ⟨n_, none, (.fields (a_ [])), a_ []⟩),
  (1561, ⟨n_, none, (f_ (top 245) "_law_ordered_graph" "_law_ordered_graph" 0 n_ n_ n_ n_ none n_ n_ 0), a_ []⟩),
  (1562, ⟨(.type "code"), none, (.fields (a_ ([(s_ "_law_ordered_graph" 2321), (s_ "_law_ordered_graph" 2322), (s_ "/claim/cut.py" 2323), (.int 1568 0), (.int 2 0), (.int 0 0), (.int 0 0), (.int 3 0), (r_ 1559), (.bool true), (.int 181 0), (r_ 1560), n_, n_, n_, (r_ 1561), (.int 2324 0), (.int 1568 0), (s_ "/claim/cut.py" 2325)]))), a_ []⟩),
  (1563, ⟨(.type "function"), none, (f_ (top 245) "_law_ordered_graph" "_law_ordered_graph" 3 n_ n_ n_ (s_ "law_trellis_k34_chordal_graphs" 2183) none (r_ 1562) n_ 0), a_ []⟩),
  (1564, ⟨(.type "tuple"), none, (.seq (a_ []) 0), a_ []⟩),
  (1565, ⟨n_, none, (.fields (a_ [])), a_ []⟩),
  (1566, ⟨n_, none, (f_ (top 246) "_law_clique_graph" "_law_clique_graph" 0 n_ n_ n_ n_ none n_ n_ 0), a_ []⟩),
  (1567, ⟨(.type "code"), none, (.fields (a_ ([(s_ "_law_clique_graph" 2327), (s_ "_law_clique_graph" 2328), (s_ "/claim/cut.py" 2329), (.int 1575 0), (.int 2 0), (.int 0 0), (.int 0 0), (.int 3 0), (r_ 1564), (.bool true), (.int 181 0), (r_ 1565), n_, n_, n_, (r_ 1566), (.int 2330 0), (.int 1575 0), (s_ "/claim/cut.py" 2331)]))), a_ []⟩),
  (1568, ⟨(.type "function"), none, (f_ (top 246) "_law_clique_graph" "_law_clique_graph" 3 n_ n_ n_ (s_ "law_trellis_k34_chordal_graphs" 2183) none (r_ 1567) n_ 0), a_ []⟩),
  (1569, ⟨(.type "tuple"), none, (.seq (a_ []) 0), a_ []⟩),
  (1570, ⟨n_, none, (.fields (a_ [])), a_ []⟩),
  (1571, ⟨n_, none, (f_ (top 247) "_law_drawn_tree" "_law_drawn_tree" 0 n_ n_ n_ n_ none n_ n_ 0), a_ []⟩),
  (1572, ⟨(.type "code"), none, (.fields (a_ ([(s_ "_law_drawn_tree" 2333), (s_ "_law_drawn_tree" 2334), (s_ "/claim/cut.py" 2335), (.int 1584 0), (.int 2 0), (.int 0 0), (.int 0 0), (.int 3 0), (r_ 1569), (.bool true), (.int 181 0), (r_ 1570), n_, n_, n_, (r_ 1571), (.int 2336 0), (.int 1584 0), (s_ "/claim/cut.py" 2337)]))), a_ []⟩),
  (1573, ⟨(.type "function"), none, (f_ (top 247) "_law_drawn_tree" "_law_drawn_tree" 3 n_ n_ n_ (s_ "law_trellis_k34_chordal_graphs" 2183) none (r_ 1572) n_ 0), a_ []⟩),
  (1574, ⟨(.type "tuple"), none, (.seq (a_ []) 0), a_ []⟩),
  (1575, ⟨n_, none, (.fields (a_ [])), a_ []⟩),
  (1576, ⟨(.type "tuple"), none, (.seq (a_ ([(s_ "_law_tree" 2342), (s_ "_law_found" 2343), (s_ "_law_part" 2344)])) 0), a_ []⟩),
  (1577, ⟨(.type "tuple"), none, (.seq (a_ []) 0), a_ []⟩),
  (1578, ⟨n_, none, (f_ (top 248) "_law_leaves" "_law_leaves" 0 n_ n_ n_ n_ none n_ n_ 0), a_ []⟩),
  (1579, ⟨(.type "code"), none, (.fields (a_ ([(s_ "_law_leaves" 2339), (s_ "_law_leaves" 2340), (s_ "/claim/cut.py" 2341), (.int 1592 0), (.int 1 0), (.int 0 0), (.int 0 0), (.int 3 0), (r_ 1574), (.bool true), (.int 181 0), (r_ 1575), n_, (r_ 1576), (r_ 1577), (r_ 1578), (.int 2345 0), (.int 1592 0), (s_ "/claim/cut.py" 2346)]))), a_ []⟩),
  (1580, ⟨(.type "function"), none, (f_ (top 248) "_law_leaves" "_law_leaves" 3 n_ n_ n_ (s_ "law_trellis_k34_chordal_graphs" 2183) none (r_ 1579) n_ 0), a_ []⟩),
  (1581, ⟨(.type "tuple"), none, (.seq (a_ []) 0), a_ []⟩),
  (1582, ⟨n_, none, (.fields (a_ [])), a_ []⟩),
  (1583, ⟨n_, none, (f_ (top 249) "_law_tree_pairs" "_law_tree_pairs" 0 n_ n_ n_ n_ none n_ n_ 0), a_ []⟩),
  (1584, ⟨(.type "code"), none, (.fields (a_ ([(s_ "_law_tree_pairs" 2348), (s_ "_law_tree_pairs" 2349), (s_ "/claim/cut.py" 2350), (.int 1599 0), (.int 1 0), (.int 0 0), (.int 0 0), (.int 3 0), (r_ 1581), (.bool true), (.int 181 0), (r_ 1582), n_, n_, n_, (r_ 1583), (.int 2351 0), (.int 1599 0), (s_ "/claim/cut.py" 2352)]))), a_ []⟩)]
def nw4_14 (w : World) : List (Nat × Obj) := [
  (1585, ⟨(.type "function"), none, (f_ (top 249) "_law_tree_pairs" "_law_tree_pairs" 3 n_ n_ n_ (s_ "law_trellis_k34_chordal_graphs" 2183) none (r_ 1584) n_ 0), a_ []⟩),
  (1586, ⟨(.type "tuple"), none, (.seq (a_ []) 0), a_ []⟩),
  (1587, ⟨n_, none, (.fields (a_ [])), a_ []⟩),
  (1588, ⟨(.type "tuple"), none, (.seq (a_ ([(s_ "_law_pool_here" 2357), (s_ "_law_most" 2358), (s_ "_law_way" 2359), (s_ "_law_n" 2360), (s_ "_law_graph_here" 2361)])) 0), a_ []⟩),
  (1589, ⟨(.type "tuple"), none, (.seq (a_ []) 0), a_ []⟩),
  (1590, ⟨n_, none, (f_ (top 250) "_law_graph" "_law_graph" 0 n_ n_ n_ n_ none n_ n_ 0), a_ []⟩),
  (1591, ⟨(.type "code"), none, (.fields (a_ ([(s_ "_law_graph" 2354), (s_ "_law_graph" 2355), (s_ "/claim/cut.py" 2356), (.int 1612 0), (.int 2 0), (.int 0 0), (.int 0 0), (.int 3 0), (r_ 1586), (.bool true), (.int 181 0), (r_ 1587), n_, (r_ 1588), (r_ 1589), (r_ 1590), (.int 2362 0), (.int 1612 0), (s_ "/claim/cut.py" 2363)]))), a_ []⟩),
  (1592, ⟨(.type "function"), none, (f_ (top 250) "_law_graph" "_law_graph" 3 n_ n_ n_ (s_ "law_trellis_k34_chordal_graphs" 2183) none (r_ 1591) n_ 0), a_ []⟩),
  (1593, ⟨(.type "tuple"), none, (.seq (a_ []) 0), a_ []⟩),
  (1594, ⟨n_, none, (.fields (a_ [])), a_ []⟩),
  (1595, ⟨n_, none, (f_ (top 251) "_law_subsets" "_law_subsets" 0 n_ n_ n_ n_ none n_ n_ 0), a_ []⟩),
  (1596, ⟨(.type "code"), none, (.fields (a_ ([(s_ "_law_subsets" 2365), (s_ "_law_subsets" 2366), (s_ "/claim/cut.py" 2367), (.int 1636 0), (.int 1 0), (.int 0 0), (.int 0 0), (.int 3 0), (r_ 1593), (.bool true), (.int 181 0), (r_ 1594), n_, n_, n_, (r_ 1595), (.int 2368 0), (.int 1636 0), (s_ "/claim/cut.py" 2369)]))), a_ []⟩),
  (1597, ⟨(.type "function"), none, (f_ (top 251) "_law_subsets" "_law_subsets" 3 n_ n_ n_ (s_ "law_trellis_k34_chordal_graphs" 2183) none (r_ 1596) n_ 0), a_ []⟩),
  (1598, ⟨(.type "tuple"), none, (.seq (a_ []) 0), a_ []⟩),
  (1599, ⟨n_, none, (.fields (a_ [])), a_ []⟩),
  (1600, ⟨n_, none, (f_ (top 252) "_law_is_row" "_law_is_row" 0 n_ n_ n_ n_ none n_ n_ 0), a_ []⟩),
  (1601, ⟨(.type "code"), none, (.fields (a_ ([(s_ "_law_is_row" 2371), (s_ "_law_is_row" 2372), (s_ "/claim/cut.py" 2373), (.int 1641 0), (.int 2 0), (.int 0 0), (.int 0 0), (.int 3 0), (r_ 1598), (.bool true), (.int 181 0), (r_ 1599), n_, n_, n_, (r_ 1600), (.int 2374 0), (.int 1641 0), (s_ "/claim/cut.py" 2375)]))), a_ []⟩),
  (1602, ⟨(.type "function"), none, (f_ (top 252) "_law_is_row" "_law_is_row" 3 n_ n_ n_ (s_ "law_trellis_k34_chordal_graphs" 2183) none (r_ 1601) n_ 0), a_ []⟩),
  (1603, ⟨(.type "tuple"), none, (.seq (a_ []) 0), a_ []⟩),
  (1604, ⟨n_, none, (.fields (a_ [])), a_ []⟩),
  (1605, ⟨n_, none, (f_ (top 253) "_law_is_way" "_law_is_way" 0 n_ n_ n_ n_ none n_ n_ 0), a_ []⟩),
  (1606, ⟨(.type "code"), none, (.fields (a_ ([(s_ "_law_is_way" 2377), (s_ "_law_is_way" 2378), (s_ "/claim/cut.py" 2379), (.int 1645 0), (.int 2 0), (.int 0 0), (.int 0 0), (.int 3 0), (r_ 1603), (.bool true), (.int 181 0), (r_ 1604), n_, n_, n_, (r_ 1605), (.int 2380 0), (.int 1645 0), (s_ "/claim/cut.py" 2381)]))), a_ []⟩),
  (1607, ⟨(.type "function"), none, (f_ (top 253) "_law_is_way" "_law_is_way" 3 n_ n_ n_ (s_ "law_trellis_k34_chordal_graphs" 2183) none (r_ 1606) n_ 0), a_ []⟩),
  (1608, ⟨(.type "tuple"), none, (.seq (a_ []) 0), a_ []⟩),
  (1609, ⟨n_, none, (.fields (a_ [])), a_ []⟩)]
def nw4_15 (w : World) : List (Nat × Obj) := [
  (1610, ⟨(.type "tuple"), none, (.seq (a_ ([(s_ "_law_graph_here" 2386), (s_ "_law_value" 2387), (s_ "_law_ring" 2388), (s_ "_law_i" 2389), (s_ "_law_j" 2390)])) 0), a_ []⟩),
  (1611, ⟨(.type "tuple"), none, (.seq (a_ []) 0), a_ []⟩),
  (1612, ⟨n_, none, (f_ (top 254) "_law_bare" "_law_bare" 0 n_ n_ n_ n_ none n_ n_ 0), a_ []⟩),
  (1613, ⟨(.type "code"), none, (.fields (a_ ([(s_ "_law_bare" 2383), (s_ "_law_bare" 2384), (s_ "/claim/cut.py" 2385), (.int 1649 0), (.int 3 0), (.int 0 0), (.int 0 0), (.int 3 0), (r_ 1608), (.bool true), (.int 181 0), (r_ 1609), n_, (r_ 1610), (r_ 1611), (r_ 1612), (.int 2391 0), (.int 1649 0), (s_ "/claim/cut.py" 2392)]))), a_ []⟩),
  (1614, ⟨(.type "function"), none, (f_ (top 254) "_law_bare" "_law_bare" 3 n_ n_ n_ (s_ "law_trellis_k34_chordal_graphs" 2183) none (r_ 1613) n_ 0), a_ []⟩),
  (1615, ⟨(.type "tuple"), none, (.seq (a_ []) 0), a_ []⟩),
  (1616, ⟨n_, none, (.fields (a_ [])), a_ []⟩),
  (1617, ⟨(.type "tuple"), none, (.seq (a_ ([(s_ "_law_graph_here" 2397), (s_ "_law_value" 2398)])) 0), a_ []⟩),
  (1618, ⟨(.type "tuple"), none, (.seq (a_ []) 0), a_ []⟩),
  (1619, ⟨n_, none, (f_ (top 255) "_law_is_hole" "_law_is_hole" 0 n_ n_ n_ n_ none n_ n_ 0), a_ []⟩),
  (1620, ⟨(.type "code"), none, (.fields (a_ ([(s_ "_law_is_hole" 2394), (s_ "_law_is_hole" 2395), (s_ "/claim/cut.py" 2396), (.int 1654 0), (.int 2 0), (.int 0 0), (.int 0 0), (.int 3 0), (r_ 1615), (.bool true), (.int 181 0), (r_ 1616), n_, (r_ 1617), (r_ 1618), (r_ 1619), (.int 2399 0), (.int 1654 0), (s_ "/claim/cut.py" 2400)]))), a_ []⟩),
  (1621, ⟨(.type "function"), none, (f_ (top 255) "_law_is_hole" "_law_is_hole" 3 n_ n_ n_ (s_ "law_trellis_k34_chordal_graphs" 2183) none (r_ 1620) n_ 0), a_ []⟩),
  (1622, ⟨(.type "tuple"), none, (.seq (a_ []) 0), a_ []⟩),
  (1623, ⟨n_, none, (.fields (a_ [])), a_ []⟩),
  (1624, ⟨n_, none, (f_ (top 256) "_law_ring_of" "_law_ring_of" 0 n_ n_ n_ n_ none n_ n_ 0), a_ []⟩),
  (1625, ⟨(.type "code"), none, (.fields (a_ ([(s_ "_law_ring_of" 2402), (s_ "_law_ring_of" 2403), (s_ "/claim/cut.py" 2404), (.int 1658 0), (.int 2 0), (.int 0 0), (.int 0 0), (.int 3 0), (r_ 1622), (.bool true), (.int 181 0), (r_ 1623), n_, n_, n_, (r_ 1624), (.int 2405 0), (.int 1658 0), (s_ "/claim/cut.py" 2406)]))), a_ []⟩),
  (1626, ⟨(.type "function"), none, (f_ (top 256) "_law_ring_of" "_law_ring_of" 3 n_ n_ n_ (s_ "law_trellis_k34_chordal_graphs" 2183) none (r_ 1625) n_ 0), a_ []⟩),
  (1627, ⟨(.type "tuple"), none, (.seq (a_ []) 0), a_ []⟩),
  (1628, ⟨n_, none, (.fields (a_ [])), a_ []⟩),
  (1629, ⟨n_, none, (f_ (top 257) "_law_holes" "_law_holes" 0 n_ n_ n_ n_ none n_ n_ 0), a_ []⟩),
  (1630, ⟨(.type "code"), none, (.fields (a_ ([(s_ "_law_holes" 2408), (s_ "_law_holes" 2409), (s_ "/claim/cut.py" 2410), (.int 1665 0), (.int 1 0), (.int 0 0), (.int 0 0), (.int 3 0), (r_ 1627), (.bool true), (.int 181 0), (r_ 1628), n_, n_, n_, (r_ 1629), (.int 2411 0), (.int 1665 0), (s_ "/claim/cut.py" 2412)]))), a_ []⟩),
  (1631, ⟨(.type "function"), none, (f_ (top 257) "_law_holes" "_law_holes" 3 n_ n_ n_ (s_ "law_trellis_k34_chordal_graphs" 2183) none (r_ 1630) n_ 0), a_ []⟩),
  (1632, ⟨(.type "tuple"), none, (.seq (a_ []) 0), a_ []⟩),
  (1633, ⟨n_, none, (.fields (a_ [])), a_ []⟩),
  (1634, ⟨n_, none, (f_ (top 258) "_law_chordal_right" "_law_chordal_right" 0 n_ n_ n_ n_ none n_ n_ 0), a_ []⟩)]
def nw4_16 (w : World) : List (Nat × Obj) := [
  (1635, ⟨(.type "code"), none, (.fields (a_ ([(s_ "_law_chordal_right" 2414), (s_ "_law_chordal_right" 2415), (s_ "/claim/cut.py" 2416), (.int 1673 0), (.int 3 0), (.int 0 0), (.int 0 0), (.int 3 0), (r_ 1632), (.bool true), (.int 181 0), (r_ 1633), n_, n_, n_, (r_ 1634), (.int 2417 0), (.int 1673 0), (s_ "/claim/cut.py" 2418)]))), a_ []⟩),
  (1636, ⟨(.type "function"), none, (f_ (top 258) "_law_chordal_right" "_law_chordal_right" 3 n_ n_ n_ (s_ "law_trellis_k34_chordal_graphs" 2183) none (r_ 1635) n_ 0), a_ []⟩),
  (1637, ⟨(.type "tuple"), none, (.seq (a_ []) 0), a_ []⟩),
  (1638, ⟨n_, none, (.fields (a_ [])), a_ []⟩),
  (1639, ⟨n_, none, (f_ (top 259) "_law_ringed" "_law_ringed" 0 n_ n_ n_ n_ none n_ n_ 0), a_ []⟩),
  (1640, ⟨(.type "code"), none, (.fields (a_ ([(s_ "_law_ringed" 2420), (s_ "_law_ringed" 2421), (s_ "/claim/cut.py" 2422), (.int 1683 0), (.int 2 0), (.int 0 0), (.int 0 0), (.int 3 0), (r_ 1637), (.bool true), (.int 181 0), (r_ 1638), n_, n_, n_, (r_ 1639), (.int 2423 0), (.int 1683 0), (s_ "/claim/cut.py" 2424)]))), a_ []⟩),
  (1641, ⟨(.type "function"), none, (f_ (top 259) "_law_ringed" "_law_ringed" 3 n_ n_ n_ (s_ "law_trellis_k34_chordal_graphs" 2183) none (r_ 1640) n_ 0), a_ []⟩),
  (1642, ⟨(.type "tuple"), none, (.seq (a_ []) 0), a_ []⟩),
  (1643, ⟨n_, none, (.fields (a_ [])), a_ []⟩),
  (1644, ⟨(.type "tuple"), none, (.seq (a_ ([(s_ "_law_script" 2429), (s_ "_law_pool_here" 2430), (s_ "_law_graph_here" 2431), (s_ "_law_paper" 2432)])) 0), a_ []⟩),
  (1645, ⟨(.type "tuple"), none, (.seq (a_ []) 0), a_ []⟩),
  (1646, ⟨n_, none, (f_ (top 260) "law" "law" 0 n_ n_ n_ n_ none n_ n_ 0), a_ []⟩),
  (1647, ⟨(.type "code"), none, (.fields (a_ ([(s_ "law" 2426), (s_ "law" 2427), (s_ "/claim/cut.py" 2428), (.int 1689 0), (.int 1 0), (.int 0 0), (.int 0 0), (.int 3 0), (r_ 1642), (.bool true), (.int 181 0), (r_ 1643), n_, (r_ 1644), (r_ 1645), (r_ 1646), (.int 2433 0), (.int 1689 0), (s_ "/claim/cut.py" 2434)]))), a_ []⟩),
  (1648, ⟨(.type "function"), none, (f_ (top 260) "law" "law" 3 n_ n_ n_ (s_ "law_trellis_k34_chordal_graphs" 2183) none (r_ 1647) n_ 0), a_ []⟩)]
def tr5 (w : World) : BT := insL (nw4_16 w) (insL (nw4_15 w) (insL (nw4_14 w) (insL (nw4_13 w) (insL (nw4_12 w) (insL (nw4_11 w) (insL (nw4_10 w) (insL (nw4_9 w) (insL (nw4_8 w) (insL (nw4_7 w) (insL (nw4_6 w) (insL (nw4_5 w) (insL (nw4_4 w) (insL (nw4_3 w) (insL (nw4_2 w) (insL (nw4_1 w) (insL (nw4_0 w) (tr4 w)))))))))))))))))
def stAt (tr : World → BT) (n toks : Nat) (w : World) (os : OsState) : SharedT := ⟨tr w, n, (boot_heap w.params).life, #[], boot_drawn, toks, os⟩
abbrev P0 : Program := PySem.Challenge.pw_trellis_k34_chordal_graphs
def envT : Env := { scope := P0.main.scope, locals := mainNs, globals := mainNs, cells := [], code := .ref 13, frame := some 14 }
def bodyT : List Stmt := behindTheImports P0
def codeT : Code := .body bodyT envT
def frmT : Frame := topFrame default
/-- a stretch of statements, to its end -/
def strF (st : SharedT → Thread → Option (SharedT × Thread)) : Nat → SharedT → Thread → Option (Flow × SharedT × Code × Pos)
  | 0, _, _ => none
  | m + 1, x, t => match endAt 1 t with
    | some f => some (f, x, t.code, t.pos)
    | none => match stepOk 11 (some (.ref 6)) t with
      | false => none
      | true => match st x t with
        | some y => frS y.1 fun x1 => strF st m x1 y.2
        | none => none
theorem strF_seg {w : World} : ∀ {m : Nat} {x x' : SharedT} {t : Thread} {f : Flow} {c : Code} {q : Pos}, strF (stepT (denote treeTable) P0 w) m x t = some (f, x', c, q) → segRunT treeTable P0 w 11 (some (.ref 6)) 1 m x t = some (f, x', c, q) := by
  intro m
  induction m with
  | zero =>
    intro x x' t f c q h
    cases h
  | succ m ih =>
    intro x x' t f c q h
    unfold strF at h
    unfold segRunT
    cases he : endAt 1 t with
    | some g =>
      rw [he] at h
      exact h
    | none =>
      rw [he] at h
      cases hk : stepOk 11 (some (.ref 6)) t with
      | false =>
        rw [hk] at h
        cases h
      | true =>
        rw [hk] at h
        cases hs : stepT (denote treeTable) P0 w x t with
        | none =>
          rw [hs] at h
          cases h
        | some y =>
          rw [hs] at h
          have h2 : (frS y.1 fun x1 => strF (stepT (denote treeTable) P0 w) m x1 y.2) = some (f, x', c, q) := h
          rw [frS_eq] at h2
          exact ih h2
theorem stretch {w : World} {m : Nat} {x x' : SharedT} {t : Thread} {f : Flow} {c : Code} {q : Pos} (h : strF (stepQ (denQ tabQ) P0 w) m x t = some (f, x', c, q)) : segRun treeTable P0 w 11 (some (.ref 6)) 1 m x.abs t = some (f, x'.abs, c, q) := by
  rw [← stepQ_eq, ← denQ_eq, ← tabQ_eq] at h
  exact segRun_of (strF_seg h)
end
end Hd
end Tr
namespace Tr.Hd
open PySem PySem.Spec PyProof.Rows L2 PySem.W PySem.Calls HandSHeadRun
theorem sg0 (w : World) (os : OsState) : strF (stepQ (denQ tabQ) P0 w) 2866 (stAt tr1 15 187 w os) (piecesOf ((bodyT.drop 0).take 70) envT codeT ⟨0, 0, 0, 0⟩ [frmT]) = some (.next, stAt tr2 451 768 w os, codeT, ⟨301, 0, 325, 79⟩) := by
  kernel_rfl
end Tr.Hd
namespace Tr.Hd
open PySem PySem.Spec PyProof.Rows L2 PySem.W PySem.Calls HandSHeadRun
theorem sg1 (w : World) (os : OsState) : strF (stepQ (denQ tabQ) P0 w) 2846 (stAt tr2 451 768 w os) (piecesOf ((bodyT.drop 70).take 70) envT codeT ⟨301, 0, 325, 79⟩ [frmT]) = some (.next, stAt tr3 935 1452 w os, codeT, ⟨880, 0, 883, 52⟩) := by
  kernel_rfl
end Tr.Hd
namespace Tr.Hd
open PySem PySem.Spec PyProof.Rows L2 PySem.W PySem.Calls HandSHeadRun
theorem sg2 (w : World) (os : OsState) : strF (stepQ (denQ tabQ) P0 w) 1557 (stAt tr3 935 1452 w os) (piecesOf ((bodyT.drop 140).take 60) envT codeT ⟨880, 0, 883, 52⟩ [frmT]) = some (.next, stAt tr4 1237 1868 w os, codeT, ⟨1204, 0, 1209, 87⟩) := by
  kernel_rfl
end Tr.Hd
namespace Tr.Hd
open PySem PySem.Spec PyProof.Rows L2 PySem.W PySem.Calls HandSHeadRun
theorem sg3 (w : World) (os : OsState) : strF (stepQ (denQ tabQ) P0 w) 2429 (stAt tr4 1237 1868 w os) (piecesOf ((bodyT.drop 200).take 61) envT codeT ⟨1204, 0, 1209, 87⟩ [frmT]) = some (.next, stAt tr5 1649 2436 w os, codeT, ⟨1689, 0, 1697, 137⟩) := by
  kernel_rfl
end Tr.Hd
namespace Tr.Hd
open PySem PySem.Spec PyProof.Rows L2 PySem.W PySem.Calls HandSHeadRun
theorem pre0 (w : World) (os : OsState) : topGo treeTable P0 w 11 (some (.ref 6)) 12 ⟨boot_heap w.params, #[], boot_drawn, boot_toks, os⟩ (topStub P0) = some ((stAt tr1 15 187 w os).abs, ⟨denote treeTable codeT, codeT, ⟨0, 0, 0, 0⟩, [frmT]⟩) := by
  kernel_rfl
theorem blk0 (w : World) (os : OsState) : strF (stepQ (denQ tabQ) P0 w) 1 (stAt tr1 15 187 w os) (blockOf bodyT envT codeT ⟨0, 0, 0, 0⟩ [frmT]) = some (.next, stAt tr1 15 187 w os, codeT, ⟨0, 0, 0, 0⟩) := by
  kernel_rfl
theorem fin0 (w : World) (os : OsState) : topRun treeTable P0 w 11 (some (.ref 6)) 2 (stAt tr5 1649 2436 w os).abs ⟨doneF .next, codeT, ⟨1689, 0, 1697, 137⟩, [frmT]⟩ = some (stAt tr5 1649 2436 w os).abs := by
  kernel_rfl
theorem bodyEq : bodyT = (bodyT.drop 0).take 70 ++ ((bodyT.drop 70).take 70 ++ ((bodyT.drop 140).take 60 ++ ((bodyT.drop 200).take 61 ++ []))) := by
  kernel_rfl
theorem size0 (w : World) : (boot_heap w.params).objs.size = 11 := by kernel_rfl
theorem ann0 (w : World) : bootAnn w = some (.ref 6) := by kernel_rfl
end Tr.Hd
namespace Tr.Hd
open PySem PySem.Spec PyProof.Rows L2 PySem.W PySem.Calls HandSHeadRun
theorem looks0 (w : World) (os : OsState) : looksF P0 (boot_heap w.params) (stAt tr5 1649 2436 w os).abs = true := by
  kernel_rfl
end Tr.Hd
namespace Tr.Hd
open PySem PySem.Spec PyProof.Rows L2 PySem.W PySem.Calls HandSHeadRun
abbrev R : PySem.W.OpenRow := PySem.W.OpenLaw.row PySem.Challenge.rw_trellis_k34_chordal_graphs
theorem seen0 (w : World) (os : OsState) : seenQ (PySem.W.view R.prog [260]) names (importedModules R.prog.main.body) (fun s => xlAt (PySem.W.view R.prog [260]) [] s && recOk R.toRowW.records s) (stAt tr5 1649 2436 w os).abs = openGood (PySem.W.view R.prog [260]) names := by
  kernel_rfl
end Tr.Hd
namespace Tr
open PySem PySem.Spec PyProof.Rows L2
/-! the hook: the globals' dict, the named defs and what they name -/
def seedA (g : Addr → Option Obj) : List Addr := (("PLAIN_KINDS" : Str) :: fn.map (·.name)).map fun x => He.ga (He.frG g [mainGlobals]) x
def asP (g : Addr → Option Obj) : List Addr := mainGlobals :: He.growD g (He.growD g (seedA g))
def kindsD : List He.Dv := [.str "connected", .str "bipartite", .str "forest", .str "block", .str "chordal", .str "interval", .str "cograph", .str "comparability", .str "permutation", .str "prime", .str "planar", .str "outerplanar"]
abbrev AlP : Type := He.AlD × Bool
def obsP (g : Addr → Option Obj) : AlP := (He.obsD fa fn (He.frG g (asP g)), He.tupB (He.frG g (asP g)) "PLAIN_KINDS" kindsD)
def valP : AlP := (He.valD fn, true)
def SaysP (K : PySem.W.Frag) : Prop := He.SaysD fa fn K ∧ He.tupB K "PLAIN_KINDS" kindsD = true
def hk : PySem.W.Hook where
  α := AlP
  obs := fun s => obsP s.heap.get?
  val := fun _ => valP
  says := fun _ h => ∃ K : PySem.W.Frag, K.In h ∧ SaysP K
  of := fun _ _ e => ⟨_, He.frG_in, congrArg (fun z : AlP => z.1) e, congrArg (fun z : AlP => z.2) e⟩
  keeps := fun _ _ _ ⟨K, hK, c⟩ k => ⟨K, PySem.W.Frag.In.keeps hK k, c⟩
def ob (s : PySem.W.SharedT) : AlP := obsP (HandSHeadRun.getT s)
open Hd HandSHeadRun in
theorem obs0 (w : World) (os : OsState) : ob (stAt tr5 1649 2436 w os) = hk.val w := by
  kernel_rfl
end Tr
namespace Tr.Hd
open PySem PySem.Spec PyProof.Rows L2 PySem.W PySem.Calls HandSHeadRun
/-- the stretches joined -/
theorem joined {p : Program} {w : World} {n0 : Nat} {an : Option Value} {env : Env} {c : Code} {b l0 l1 l2 l3 : List Stmt} {x xa xb x0 x1 x2 x3 x4 : Shared} {pa pb p0 p1 p2 p3 : Pos} {ka kb k0 k1 k2 k3 k4 : Nat}
    (hc : c = .body b env) (hb : b = l0 ++ (l1 ++ (l2 ++ (l3 ++ []))))
    (ha : topGo treeTable p w n0 an ka x (topStub p) = some (xa, ⟨denote treeTable c, c, pa, [topFrame default]⟩))
    (hB : segRun treeTable p w n0 an 1 kb xa (blockOf b env c pa [topFrame default]) = some (.next, xb, c, pb))
    (h0 : segRun treeTable p w n0 an 1 k0 xb (piecesOf l0 env c pb [topFrame default]) = some (.next, x0, c, p0))
    (h1 : segRun treeTable p w n0 an 1 k1 x0 (piecesOf l1 env c p0 [topFrame default]) = some (.next, x1, c, p1))
    (h2 : segRun treeTable p w n0 an 1 k2 x1 (piecesOf l2 env c p1 [topFrame default]) = some (.next, x2, c, p2))
    (h3 : segRun treeTable p w n0 an 1 k3 x2 (piecesOf l3 env c p2 [topFrame default]) = some (.next, x3, c, p3))
    (h4 : topRun treeTable p w n0 an k4 x3 ⟨doneF .next, c, p3, [topFrame default]⟩ = some x4) :
    topRun treeTable p w n0 an (ka + (kb + (k0 + (k1 + (k2 + (k3 + k4)))))) x (topStub p) = some x4 := by
  have f4 := piece_nil (env := env) h4
  have f3 := piece_app h3 f4
  have f2 := piece_app h2 f3
  have f1 := piece_app h1 f2
  have f0 := piece_app h0 f1
  rw [← hb] at f0
  have fb := piece_block hB f0
  rw [← hc] at fb
  exact go_top ha fb
theorem left_gen {p q : Program} {loose : List PySem.Str} {Xt : Shared → Bool} {al : Type} {Yf : Shared → al} {Ya : World → al} {M : Nat} (S : World → OsState → Shared) (e : opening p = plainProg p.main.scope.names) (hM : Nat.ble 600 M = true) (hf : ∀ s, fenceModules? p s = some s)
    (run : ∀ w os, topRun treeTable p w (boot_heap w.params).objs.size (bootAnn w) M ⟨boot_heap w.params, #[], boot_drawn, boot_toks, os⟩ (topStub p) = some (S w os)) (l : ∀ w os, looksF p (boot_heap w.params) (S w os) = true)
    (sn : ∀ w os, openSeen q loose (importedModules p.main.body) Xt true (S w os) = openGood q loose) (y : ∀ w os, Yf (S w os) = Ya w) : LeftO p q loose Xt Yf Ya M true := by
  intro w
  obtain ⟨⟨hp0, gs, dr, tk, os⟩, a, a2⟩ := Option.map_eq_some_iff.mp (boot_open (N := M) e hM hf w)
  have z : hp0 = boot_heap w.params ∧ gs = Array.mk [] ∧ dr = boot_drawn ∧ tk = boot_toks := by simpa using a2
  obtain ⟨q1, q2, q3, q4⟩ := z
  subst q1 q2 q3 q4
  have t : topFrom treeTable p w M ⟨boot_heap w.params, Array.mk [], boot_drawn, boot_toks, os⟩ = some (S w os) := by
    unfold topFrom
    dsimp only
    rw [HandSHeadRun.boot_ns]
    have r := run w os
    have l1 := l w os
    unfold bootAnn at r
    unfold looksF at l1
    rw [r, Option.bind_some, l1]
    rfl
  unfold openEnds
  rw [a, Option.bind_some, t, Option.map_some, sn, y]
end Tr.Hd
namespace Tr.Hd
open PySem PySem.Spec PyProof.Rows L2 PySem.W PySem.Calls HandSHeadRun
abbrev big : Nat := 12 + (1 + (2866 + (2846 + (1557 + (2429 + 2)))))
theorem ob_eqT (x : SharedT) : ob x = hk.obs x.abs := by
  have e : HandSHeadRun.getT x = x.abs.heap.get? := funext (HandSHeadRun.getT_eq x)
  show obsP (HandSHeadRun.getT x) = obsP x.abs.heap.get?
  rw [e]
noncomputable def endS (w : World) (os : OsState) : Shared := (stAt tr5 1649 2436 w os).abs
noncomputable abbrev x0 (w : World) (os : OsState) : Shared := ⟨boot_heap w.params, #[], boot_drawn, boot_toks, os⟩
theorem topAll (w : World) (os : OsState) : topRun treeTable P0 w 11 (some (.ref 6)) big (x0 w os) (topStub P0) = some (endS w os) :=
  joined (p := P0) (w := w) (n0 := 11) (an := some (.ref 6)) (env := envT) (c := codeT) (b := bodyT) (x := x0 w os) (x4 := endS w os) rfl bodyEq (pre0 w os) (stretch (blk0 w os)) (stretch (sg0 w os)) (stretch (sg1 w os)) (stretch (sg2 w os)) (stretch (sg3 w os)) (fin0 w os)
abbrev qv : Program := PySem.W.view R.prog [260]
abbrev Xq : Shared → Bool := fun s => xlAt qv [] s && recOk R.toRowW.records s
theorem obsEnd (w : World) (os : OsState) : hk.obs (endS w os) = hk.val w := by
  have e := obs0 w os
  rw [ob_eqT] at e
  exact e
theorem runEnd (w : World) (os : OsState) : topRun treeTable P0 w (boot_heap w.params).objs.size (bootAnn w) big ⟨boot_heap w.params, #[], boot_drawn, boot_toks, os⟩ (topStub P0) = some (endS w os) := by
  rw [size0, ann0]
  exact topAll w os
theorem seenEnd (w : World) (os : OsState) : openSeen qv names (importedModules P0.main.body) Xq true (endS w os) = openGood qv names := by
  rw [seenQ_eq]
  exact seen0 w os
theorem open0 : opening P0 = plainProg P0.main.scope.names := by kernel_rfl
theorem fence0 (s : Shared) : fenceModules? P0 s = some s := by kernel_rfl
theorem leftT : LeftO P0 qv names Xq hk.obs hk.val big true := left_gen endS open0 (Nat.ble_eq_true_of_le (by decide)) fence0 runEnd looks0 seenEnd obsEnd
end Tr.Hd
namespace Tr.Hd
open PySem PySem.Spec PyProof.Rows L2 PySem.W PySem.Calls PySem.TablesWhole
theorem wSs_app {top : Scope} {cx : TablesWhole.Ctx} {sc : Scope} : ∀ {a b : List Stmt}, wSs holds top cx sc a = true → wSs holds top cx sc b = true → wSs holds top cx sc (a ++ b) = true
  | [], b, _, h => h
  | x :: r, b, h1, h2 => by
    have h : (wS holds top cx sc x && wSs holds top cx sc r) = true := h1
    obtain ⟨p, q⟩ := Bool.and_eq_true_iff.mp h
    show (wS holds top cx sc x && wSs holds top cx sc (r ++ b)) = true
    rw [p, wSs_app q h2]
    rfl
abbrev bodyM : List Stmt := P0.main.body
abbrev scM : Scope := P0.main.scope
theorem told0 : wSs gather scM ⟨scM, [], [], [], none⟩ scM bodyM = [] := by kernel_rfl
end Tr.Hd
namespace Tr.Hd
open PySem PySem.Spec PyProof.Rows L2 PySem.W PySem.Calls PySem.TablesWhole
def codeN (x : PySem.Str) : Nat := x.cps.toList.foldl (fun a c => a * 1114112 + c + 1) 0
def apart (a : Nat) : List Nat → Bool
  | [] => true
  | b :: r => match Nat.beq a b with
    | true => false
    | false => apart a r
def dis : List Nat → Bool
  | [] => true
  | a :: r => match apart a r with
    | true => dis r
    | false => false
theorem apart_ok {a : Nat} : ∀ {l : List Nat}, apart a l = true → a ∉ l
  | [], _ => by simp
  | b :: r, h => by
    unfold apart at h
    cases q : Nat.beq a b with
    | true =>
      rw [q] at h
      cases h
    | false =>
      rw [q] at h
      intro m
      rcases List.mem_cons.mp m with e | e
      · rw [e, Nat.beq_refl] at q
        cases q
      · exact apart_ok h e
theorem dis_ok : ∀ {l : List Nat}, dis l = true → l.Nodup
  | [], _ => List.nodup_nil
  | a :: r, h => by
    unfold dis at h
    cases q : apart a r with
    | false =>
      rw [q] at h
      cases h
    | true =>
      rw [q] at h
      exact List.nodup_cons.mpr ⟨apart_ok q, dis_ok h⟩
theorem nodup_map {al be : Type} (f : al → be) : ∀ {l : List al}, (l.map f).Nodup → l.Nodup
  | [], _ => List.nodup_nil
  | a :: r, h => by
    rw [List.map_cons, List.nodup_cons] at h
    exact List.nodup_cons.mpr ⟨fun m => h.1 (List.mem_map.mpr ⟨a, m, rfl⟩), nodup_map f h.2⟩
theorem filter_one : ∀ {l : List (PySem.Str × NameKind)}, (l.map (·.1)).Nodup → ∀ p ∈ l, l.filter (fun q => q.1 == p.1) = [p]
  | [], _, p, h => by cases h
  | a :: r, nd, p, h => by
    rw [List.map_cons, List.nodup_cons] at nd
    have none_ : ∀ x : PySem.Str, x ∉ r.map (·.1) → r.filter (fun q => q.1 == x) = [] := fun x hx => by
      rw [List.filter_eq_nil_iff]
      intro q hq e
      exact hx (List.mem_map.mpr ⟨q, hq, eq_of_beq e⟩)
    rcases List.mem_cons.mp h with e | e
    · subst e
      rw [List.filter_cons, if_pos (beq_self_eq_true _), none_ _ nd.1]
    · have hne : (a.1 == p.1) = false := beq_eq_false_iff_ne.mpr fun z => nd.1 (by rw [z]; exact List.mem_map.mpr ⟨p, e, rfl⟩)
      rw [List.filter_cons, if_neg (by rw [hne]; decide)]
      exact filter_one nd.2 p e
theorem noTwice_of {sc : Scope} (h : (sc.names.map (·.1)).Nodup) : noTwice sc = true := by
  unfold noTwice
  rw [List.all_eq_true]
  intro p hp
  obtain ⟨n, k⟩ := p
  have e := filter_one h (n, k) hp
  dsimp only at e ⊢
  rw [e]
theorem disM : dis ((P0.main.scope.names.map (·.1)).map codeN) = true := by kernel_rfl
theorem noTwiceM : noTwice P0.main.scope = true := noTwice_of (nodup_map codeN (dis_ok disM))
end Tr.Hd
namespace Tr.Hd
open PySem PySem.Spec PyProof.Rows L2 PySem.W PySem.Calls PySem.TablesWhole
abbrev cxM : TablesWhole.Ctx := ⟨scM, [], [], [], none⟩
theorem tw0 : wSs holds scM cxM scM ((bodyM.drop 0).take 60) = true := by kernel_rfl
theorem tw1 : wSs holds scM cxM scM ((bodyM.drop 60).take 60) = true := by kernel_rfl
theorem tw2 : wSs holds scM cxM scM ((bodyM.drop 120).take 50) = true := by kernel_rfl
theorem tw3 : wSs holds scM cxM scM ((bodyM.drop 170).take 50) = true := by kernel_rfl
theorem tw4 : wSs holds scM cxM scM ((bodyM.drop 220).take 41) = true := by kernel_rfl
theorem bodyMEq : bodyM = (bodyM.drop 0).take 60 ++ ((bodyM.drop 60).take 60 ++ ((bodyM.drop 120).take 50 ++ ((bodyM.drop 170).take 50 ++ (bodyM.drop 220).take 41))) := by kernel_rfl
theorem twAll : wSs holds scM cxM scM bodyM = true := by
  rw [bodyMEq]
  exact wSs_app tw0 (wSs_app tw1 (wSs_app tw2 (wSs_app tw3 tw4)))
theorem wModule_of {m : PySem.Module} (h1 : noTwice m.scope = true) (h2 : wSs gather m.scope ⟨m.scope, [], [], [], none⟩ m.scope m.body = []) (h3 : wSs holds m.scope ⟨m.scope, [], [], [], none⟩ m.scope m.body = true) : wModule holds m = true := by
  unfold wModule
  rw [h2]
  show (true && (noTwice m.scope && (wSs holds m.scope ⟨m.scope, [], [], [], none⟩ m.scope m.body && true))) = true
  rw [h1, h3]
  rfl
theorem whole_of {p : Program} (h : wModule holds p.main = true) (h1 : p.modules = []) (h2 : p.parses = []) (h3 : p.harvested = []) : p.tablesWhole = true := by
  unfold Program.tablesWhole wProgram
  rw [h1, h2, h3]
  show (wModule holds p.main && (true && (true && (true && true)))) = true
  rw [h]
  rfl
theorem tablesM : P0.tablesWhole = true := whole_of (wModule_of noTwiceM told0 twAll) rfl rfl rfl
theorem bareM : P0.bare := ⟨rfl, rfl, rfl, rfl, rfl, tablesM⟩
end Tr.Hd
namespace Tr
/-! ### walks in a relation -/
inductive Conn (A : Int → Int → Prop) (ok : Int → Prop) (a : Int) : Int → Prop
  | refl : Conn A ok a a
  | step {x y : Int} : Conn A ok a x → A x y → ok y → Conn A ok a y
section
variable {A : Int → Int → Prop} {ok ok' : Int → Prop} {a b c : Int}
theorem Conn.trans (h : Conn A ok a b) (g : Conn A ok b c) : Conn A ok a c := by
  induction g with
  | refl => exact h
  | step _ e o ih => exact .step ih e o
theorem Conn.one (e : A a b) (o : ok b) : Conn A ok a b := .step .refl e o
theorem Conn.head (h : Conn A ok a b) (oa : ok a) : ok b := by
  cases h with
  | refl => exact oa
  | step _ _ o => exact o
theorem Conn.rev (sym : ∀ u v, A u v → A v u) (h : Conn A ok a b) (oa : ok a) : Conn A ok b a := by
  induction h with
  | refl => exact .refl
  | step g e o ih => exact (Conn.one (sym _ _ e) (g.head oa)).trans ih
theorem Conn.mono (h : Conn A ok a b) (m : ∀ x, ok x → ok' x) : Conn A ok' a b := by
  induction h with
  | refl => exact .refl
  | step _ e o ih => exact .step ih e (m _ o)
end
/-! ### what find_hole has not found -/
def okAt (A : Int → Int → Prop) (v a b : Int) : Int → Prop := fun w => w ≠ v ∧ (A v w → w = a ∨ w = b)
def NoHoleC (A : Int → Int → Prop) : Prop := ∀ v a b, A v a → A v b → a ≠ b → ¬ A a b → ¬ Conn A (okAt A v a b) a b
/-- one order of the two is enough -/
theorem noHole_of {A : Int → Int → Prop} (sym : ∀ u v, A u v → A v u) (irr : ∀ u, ¬ A u u) (h : ∀ v a b, A v a → A v b → a < b → ¬ A a b → ¬ Conn A (okAt A v a b) a b) : NoHoleC A := by
  intro v a b ha hb hne hab hc
  rcases Int.lt_or_gt_of_ne hne with l | l
  · exact h v a b ha hb l hab hc
  · refine h v b a hb ha l (fun z => hab (sym _ _ z)) ?_
    have oa : okAt A v a b a := ⟨fun z => irr v (by rw [z] at ha; exact ha), fun _ => .inl rfl⟩
    exact (hc.rev sym oa).mono fun x ⟨p, q⟩ => ⟨p, fun z => (q z).symm⟩
/-- v is simplicial in W -/
def Simp (A : Int → Int → Prop) (W : List Int) (x : Int) : Prop := ∀ y ∈ W, ∀ z ∈ W, A x y → A x z → y ≠ z → A y z
open Classical in
theorem dirac {A : Int → Int → Prop} (sym : ∀ u v, A u v → A v u) (irr : ∀ u, ¬ A u u) (C : NoHoleC A) : ∀ (k : Nat) (W : List Int), W.length ≤ k → ∀ v ∈ W, (∃ u ∈ W, u ≠ v ∧ ¬ A u v) → ∃ x ∈ W, x ≠ v ∧ ¬ A x v ∧ Simp A W x := by
  intro k
  induction k with
  | zero =>
    intro W hW v hv
    have : W = [] := List.length_eq_zero_iff.mp (by omega)
    subst this
    cases hv
  | succ k ih =>
    intro W hW v hv ⟨u0, hu0, hne0, hnA0⟩
    let U : Int → Prop := fun x => x ∈ W ∧ x ≠ v ∧ ¬ A x v
    have hU0 : U u0 := ⟨hu0, hne0, hnA0⟩
    let B : Int → Prop := fun y => Conn A U u0 y
    have BU : ∀ y, B y → U y := fun y h => Conn.head h hU0
    let S : Int → Prop := fun s => s ∈ W ∧ ¬ B s ∧ ∃ y, B y ∧ A s y
    have SN : ∀ s, S s → A s v := by
      intro s ⟨hs, nb, y, hy, hsy⟩
      apply Classical.byContradiction
      intro hn
      have hsv : s ≠ v := by
        intro z
        rw [z] at hsy
        exact (BU y hy).2.2 (sym _ _ hsy)
      exact nb (Conn.step hy (sym _ _ hsy) ⟨hs, hsv, hn⟩)
    have SC : ∀ s t, S s → S t → s ≠ t → A s t := by
      intro s t hs ht hst
      apply Classical.byContradiction
      intro hn
      obtain ⟨y1, hy1, e1⟩ := hs.2.2
      obtain ⟨y2, hy2, e2⟩ := ht.2.2
      refine C v s t (sym _ _ (SN s hs)) (sym _ _ (SN t ht)) hst hn ?_
      have okU : ∀ x, U x → okAt A v s t x := fun x hx => ⟨hx.2.1, fun z => absurd (sym _ _ z) hx.2.2⟩
      have p : Conn A U y1 y2 := (Conn.rev sym hy1 hU0).trans hy2
      have okt : okAt A v s t t := ⟨fun z => irr v (by
        have := SN t ht
        rw [z] at this
        exact this), fun _ => .inr rfl⟩
      exact Conn.step ((Conn.one e1 (okU _ (BU _ hy1))).trans (p.mono okU)) (sym _ _ e2) okt
    let W' := W.filter fun x => decide (B x ∨ S x)
    have mW : ∀ x, x ∈ W' ↔ x ∈ W ∧ (B x ∨ S x) := fun x => by simp [W']
    have hlt : W'.length < W.length := by
      apply List.length_filter_lt_length_iff_exists.mpr
      refine ⟨v, hv, ?_⟩
      intro z
      rcases of_decide_eq_true z with z | z
      · exact (BU v z).2.1 rfl
      · exact irr v (SN v z)
    have hu0W : u0 ∈ W' := (mW u0).mpr ⟨hu0, .inl .refl⟩
    have nbr : ∀ x, B x → ∀ y ∈ W, A x y → y ∈ W' := by
      intro x hx y hy hxy
      rw [mW]
      refine ⟨hy, ?_⟩
      by_cases hb : B y
      · exact .inl hb
      · exact .inr ⟨hy, hb, x, hx, sym _ _ hxy⟩
    have key : ∃ x, B x ∧ Simp A W' x := by
      by_cases h1 : ∃ s, S s ∧ ∃ u ∈ W', u ≠ s ∧ ¬ A u s
      · obtain ⟨s, hs, hu⟩ := h1
        obtain ⟨x, hx, hxs, hnx, hsi⟩ := ih W' (by omega) s ((mW s).mpr ⟨hs.1, .inr hs⟩) hu
        rcases ((mW x).mp hx).2 with b | b
        · exact ⟨x, b, hsi⟩
        · exact absurd (SC x s b hs hxs) hnx
      · by_cases h2 : ∃ b, B b ∧ ∃ u ∈ W', u ≠ b ∧ ¬ A u b
        · obtain ⟨b, hb, hu⟩ := h2
          have hbW : b ∈ W' := (mW b).mpr ⟨(BU b hb).1, .inl hb⟩
          obtain ⟨x, hx, hxb, hnx, hsi⟩ := ih W' (by omega) b hbW hu
          rcases ((mW x).mp hx).2 with z | z
          · exact ⟨x, z, hsi⟩
          · exact absurd ⟨x, z, b, hbW, fun e => hxb e.symm, fun e => hnx (sym _ _ e)⟩ h1
        · refine ⟨u0, .refl, ?_⟩
          intro y hy z hz _ _ hyz
          apply Classical.byContradiction
          intro hn
          rcases ((mW z).mp hz).2 with q | q
          · exact h2 ⟨z, q, y, hy, hyz, hn⟩
          · exact h1 ⟨z, q, y, hy, hyz, hn⟩
    obtain ⟨x, hx, hsi⟩ := key
    have hxU := BU x hx
    refine ⟨x, hxU.1, hxU.2.1, hxU.2.2, ?_⟩
    intro y hy z hz hxy hxz hyz
    exact hsi y (nbr x hx y hy hxy) z (nbr x hx z hz hxz) hxy hxz hyz
theorem simplicial {A : Int → Int → Prop} (sym : ∀ u v, A u v → A v u) (irr : ∀ u, ¬ A u u) (C : NoHoleC A) (W : List Int) (h : W ≠ []) : ∃ x ∈ W, Simp A W x := by
  by_cases h1 : ∃ v ∈ W, ∃ u ∈ W, u ≠ v ∧ ¬ A u v
  · obtain ⟨v, hv, hu⟩ := h1
    obtain ⟨x, hx, _, _, hs⟩ := dirac sym irr C W.length W (Nat.le_refl _) v hv hu
    exact ⟨x, hx, hs⟩
  · obtain ⟨x, hx⟩ := List.exists_mem_of_ne_nil W h
    refine ⟨x, hx, ?_⟩
    intro y hy z hz _ _ hyz
    apply Classical.byContradiction
    intro hn
    exact h1 ⟨z, hz, y, hy, hyz, hn⟩
/-! ### holes -/
/-- next to each other in a ring of L -/
def near (L i j : Nat) : Prop := j = i + 1 ∨ i = j + 1 ∨ (i = 0 ∧ j + 1 = L) ∨ (j = 0 ∧ i + 1 = L)
instance (L i j : Nat) : Decidable (near L i j) := by unfold near; exact inferInstance
structure HoleP (A : Int → Int → Prop) (h : List Int) : Prop where
  len : 4 ≤ h.length
  nd : h.Nodup
  adj : ∀ i j (hi : i < h.length) (hj : j < h.length), i ≠ j → (A h[i] h[j] ↔ near h.length i j)
/-- no hole where find_hole finds none -/
theorem no_hole {A : Int → Int → Prop} (irr : ∀ u, ¬ A u u) (C : NoHoleC A) (h : List Int) : ¬ HoleP A h := by
  intro H
  have hl := H.len
  have h0 : 0 < h.length := by omega
  have inj : ∀ i j (hi : i < h.length) (hj : j < h.length), i ≠ j → h[i] ≠ h[j] := fun i j hi hj ne e => ne ((List.getElem_inj H.nd).mp e)
  have e1 : A h[0] h[1] := (H.adj 0 1 (by omega) (by omega) (by omega)).mpr (by unfold near; omega)
  have e2 : A h[0] h[h.length - 1] := (H.adj 0 (h.length - 1) (by omega) (by omega) (by omega)).mpr (by unfold near; omega)
  refine C h[0] h[1] h[h.length - 1] e1 e2 (inj _ _ _ _ (by omega)) ?_ ?_
  · intro z
    have := (H.adj 1 (h.length - 1) (by omega) (by omega) (by omega)).mp z
    unfold near at this
    omega
  · have : ∀ k (hk : k < h.length - 1), Conn A (okAt A h[0] h[1] h[h.length - 1]) h[1] (h[k + 1]'(by omega)) := by
      intro k
      induction k with
      | zero => intro _; exact .refl
      | succ k ih =>
        intro hk
        refine .step (ih (by omega)) ((H.adj (k + 1) (k + 1 + 1) (by omega) (by omega) (by omega)).mpr (by unfold near; omega)) ⟨inj _ _ _ _ (by omega), fun z => ?_⟩
        have := (H.adj 0 (k + 1 + 1) (by omega) (by omega) (by omega)).mp z
        unfold near at this
        right
        congr 1
        omega
    have q := this (h.length - 2) (by omega)
    have e : h.length - 2 + 1 = h.length - 1 := by omega
    simp only [e] at q
    exact q
end Tr
namespace Tr
/-! ### the search: ps the dict's pairs (vertex, the one before it), c how many have left the queue -/
structure Bfs (A : Int → Int → Prop) (av : Int → Prop) (u : Int) (ps : List (Int × Int)) (c : Nat) : Prop where
  first : ps[0]? = some (u, u)
  nd : (ps.map (·.1)).Nodup
  par : ∀ (i : Nat) (k q : Int), ps[i]? = some (k, q) → i ≠ 0 → ∃ j : Nat, j < i ∧ j < c ∧ (ps.map (·.1))[j]? = some q ∧ A q k ∧ ¬ av k ∧ ∀ (m : Nat) (y : Int), m < j → (ps.map (·.1))[m]? = some y → ¬ A y k
/-- all that the first c lead to is known -/
def Closed (A : Int → Int → Prop) (av : Int → Prop) (ps : List (Int × Int)) (c : Nat) : Prop := ∀ (i : Nat) (x w : Int), i < c → (ps.map (·.1))[i]? = some x → A x w → ¬ av w → w ∈ ps.map (·.1)
section
variable {A : Int → Int → Prop} {av : Int → Prop} {u : Int} {ps : List (Int × Int)} {c : Nat}
theorem Bfs.start : Bfs A av u [(u, u)] 0 := by
  refine ⟨rfl, by simp, ?_⟩
  intro i k q h hi
  match i with
  | 0 => exact absurd rfl hi
  | i + 1 => simp at h
theorem Closed.zero : Closed A av ps 0 := fun i x w h => absurd h (by omega)
theorem Bfs.pop (b : Bfs A av u ps c) : Bfs A av u ps (c + 1) := ⟨b.first, b.nd, fun i k q h hi => by
  obtain ⟨j, h1, h2, h3⟩ := b.par i k q h hi
  exact ⟨j, h1, by omega, h3⟩⟩
/-- a new vertex, found from the one that left last -/
theorem Bfs.add (b : Bfs A av u ps (c + 1)) (cl : Closed A av ps c) {x w : Int} (hx : (ps.map (·.1))[c]? = some x) (ha : A x w) (hv : ¬ av w) (hn : w ∉ ps.map (·.1)) : Bfs A av u (ps ++ [(w, x)]) (c + 1) := by
  have hc : c < ps.length := by
    have := (List.getElem?_eq_some_iff.mp hx).1
    simpa using this
  have low : ∀ j (y : Int), (ps.map (·.1))[j]? = some y → ((ps ++ [(w, x)]).map (·.1))[j]? = some y := fun j y h => by
    have hj := (List.getElem?_eq_some_iff.mp h).1
    rw [List.map_append, List.getElem?_append_left hj]
    exact h
  have back : ∀ j (y : Int), j < ps.length → ((ps ++ [(w, x)]).map (·.1))[j]? = some y → (ps.map (·.1))[j]? = some y := fun j y hj h => by
    rw [List.map_append, List.getElem?_append_left (by simpa using hj)] at h
    exact h
  refine ⟨?_, ?_, ?_⟩
  · rw [List.getElem?_append_left (by omega)]
    exact b.first
  · rw [List.map_append]
    refine List.nodup_append.mpr ⟨b.nd, by simp, ?_⟩
    intro a ha' y hy
    simp at hy
    subst hy
    exact fun e => hn (e ▸ ha')
  · intro i k q h hi
    by_cases hil : i < ps.length
    · rw [List.getElem?_append_left hil] at h
      obtain ⟨j, h1, h2, h3, h4, h5, h6⟩ := b.par i k q h hi
      exact ⟨j, h1, h2, low _ _ h3, h4, h5, fun m y hm hy => h6 m y hm (back m y (by omega) hy)⟩
    · have hi2 : i = ps.length := by
        have := (List.getElem?_eq_some_iff.mp h).1
        simp at this
        omega
      subst hi2
      simp at h
      obtain ⟨rfl, rfl⟩ := h
      refine ⟨c, hc, by omega, low _ _ hx, ha, hv, fun m y hm hy z => ?_⟩
      exact hn (cl m y _ hm (back m y (by omega) hy) z hv)
theorem Closed.add (cl : Closed A av ps c) {p : Int × Int} : Closed A av (ps ++ [p]) c → Closed A av (ps ++ [p]) c := id
theorem Closed.grow {ps' : List (Int × Int)} (b : c ≤ ps.length) (cl : Closed A av ps c) : Closed A av (ps ++ ps') c := fun i x w hi hx ha hv => by
  rw [List.map_append, List.getElem?_append_left (by simpa using Nat.lt_of_lt_of_le hi b)] at hx
  rw [List.map_append]
  exact List.mem_append_left _ (cl i x w hi hx ha hv)
/-- nothing waits: what is not known is not joined -/
theorem Bfs.none (b : Bfs A av u ps c) (cl : Closed A av ps ps.length) {v : Int} (hv : v ∉ ps.map (·.1)) : ¬ Conn A (fun w => ¬ av w) u v := by
  have : ∀ y, Conn A (fun w => ¬ av w) u y → y ∈ ps.map (·.1) := by
    intro y h
    induction h with
    | refl =>
      have := List.mem_of_getElem? b.first
      exact List.mem_map.mpr ⟨_, this, rfl⟩
    | step _ e o ih =>
      obtain ⟨i, hi, e1⟩ := List.mem_iff_getElem.mp ih
      exact cl i _ _ (by simpa using hi) (by rw [List.getElem?_eq_getElem hi, e1]) e o
  exact fun h => hv (this v h)
/-! ### the way back: path, its last vertex at place i -/
structure Back (A : Int → Int → Prop) (av : Int → Prop) (u v : Int) (ks : List Int) (path : List Int) (ix : List Nat) : Prop where
  len : ix.length = path.length
  pos : 0 < path.length
  head : path[0]? = some v
  at_ : ∀ (t : Nat) (i : Nat) (x : Int), ix[t]? = some i → path[t]? = some x → ks[i]? = some x
  dec : ix.Pairwise (fun a b => b < a)
  ok : ∀ x ∈ path, x = u ∨ ¬ av x
  nxt : ∀ (t i j : Nat) (x y : Int), ix[t]? = some i → ix[t + 1]? = some j → path[t]? = some x → path[t + 1]? = some y → A y x ∧ ∀ (m : Nat) (z : Int), m < j → ks[m]? = some z → ¬ A z x
theorem Back.start {v : Int} {i : Nat} (h : (ps.map (·.1))[i]? = some v) (ok : v = u ∨ ¬ av v) : Back A av u v (ps.map (·.1)) [v] [i] := by
  refine ⟨rfl, by simp, rfl, ?_, by simp, by simpa using ok, ?_⟩
  · intro t j x h1 h2
    match t with
    | 0 =>
      simp at h1 h2
      subst h1 h2
      exact h
    | t + 1 => simp at h1
  · intro t a b x y h1 h2
    simp at h2
theorem Back.step {v q : Int} {ks path : List Int} {ix : List Nat} {x : Int} {i j : Nat} (b : Back A av u v ks path ix) (hx : path[path.length - 1]? = some x) (hi : ix[path.length - 1]? = some i)
    (hj : ks[j]? = some q) (hji : j < i) (ha : A q x) (hm : ∀ (m : Nat) (z : Int), m < j → ks[m]? = some z → ¬ A z x) (ok : q = u ∨ ¬ av q) : Back A av u v ks (path ++ [q]) (ix ++ [j]) := by
  have hl := b.len
  have hp := b.pos
  have pat : ∀ (t : Nat) (y : Int), (path ++ [q])[t]? = some y → (t < path.length ∧ path[t]? = some y) ∨ (t = path.length ∧ y = q) := fun t y h => by
    by_cases ht : t < path.length
    · rw [List.getElem?_append_left ht] at h
      exact .inl ⟨ht, h⟩
    · have h1 := (List.getElem?_eq_some_iff.mp h).1
      simp at h1
      have : t = path.length := by omega
      subst this
      simp at h
      exact .inr ⟨rfl, h.symm⟩
  have pix : ∀ (t : Nat) (y : Nat), (ix ++ [j])[t]? = some y → (t < path.length ∧ ix[t]? = some y) ∨ (t = path.length ∧ y = j) := fun t y h => by
    by_cases ht : t < ix.length
    · rw [List.getElem?_append_left ht] at h
      exact .inl ⟨by omega, h⟩
    · have h1 := (List.getElem?_eq_some_iff.mp h).1
      simp at h1
      have : t = ix.length := by omega
      subst this
      simp at h
      exact .inr ⟨by omega, h.symm⟩
  refine ⟨by simp [hl], by simp, ?_, ?_, ?_, ?_, ?_⟩
  · rw [List.getElem?_append_left hp]
    exact b.head
  · intro t a y h1 h2
    rcases pix t a h1 with ⟨p1, p2⟩ | ⟨p1, p2⟩ <;> rcases pat t y h2 with ⟨q1, q2⟩ | ⟨q1, q2⟩
    · exact b.at_ t a y p2 q2
    · omega
    · omega
    · subst p2 q2
      exact hj
  · refine List.pairwise_append.mpr ⟨b.dec, by simp, ?_⟩
    intro a ha' y hy
    simp at hy
    subst hy
    obtain ⟨t, ht, e⟩ := List.mem_iff_getElem.mp ha'
    by_cases htl : t = path.length - 1
    · subst htl
      rw [List.getElem?_eq_getElem ht, e] at hi
      cases hi
      exact hji
    · have hlast : path.length - 1 < ix.length := by omega
      have := List.pairwise_iff_getElem.mp b.dec t (path.length - 1) ht hlast (by omega)
      rw [List.getElem?_eq_getElem hlast] at hi
      have ei := Option.some.inj hi
      omega
  · intro y hy
    rcases List.mem_append.mp hy with h | h
    · exact b.ok y h
    · simp at h
      subst h
      exact ok
  · intro t a a' y y' h1 h2 h3 h4
    rcases pix (t + 1) a' h2 with ⟨p1, p2⟩ | ⟨p1, p2⟩
    · rcases pix t a h1 with ⟨r1, r2⟩ | ⟨r1, r2⟩
      · rcases pat t y h3 with ⟨s1, s2⟩ | ⟨s1, s2⟩
        · rcases pat (t + 1) y' h4 with ⟨w1, w2⟩ | ⟨w1, w2⟩
          · exact b.nxt t a a' y y' r2 p2 s2 w2
          · omega
        · omega
      · omega
    · rcases pat (t + 1) y' h4 with ⟨w1, w2⟩ | ⟨w1, w2⟩
      · omega
      · subst p2 w2
        have ht : t = path.length - 1 := by omega
        subst ht
        rcases pat _ y h3 with ⟨s1, s2⟩ | ⟨s1, s2⟩
        · rw [hx] at s2
          cases s2
          exact ⟨ha, hm⟩
        · omega
/-- an induced path from u to v -/
structure IPath (A : Int → Int → Prop) (av : Int → Prop) (u v : Int) (R : List Int) : Prop where
  head : R[0]? = some u
  last : R[R.length - 1]? = some v
  nd : R.Nodup
  ok : ∀ x ∈ R, x = u ∨ ¬ av x
  adj : ∀ i j (hi : i < R.length) (hj : j < R.length), i < j → (A R[i] R[j] ↔ j = i + 1)
theorem Back.ends {v : Int} {path : List Int} {ix : List Nat} (nd : (ps.map (·.1)).Nodup) (b : Back A av u v (ps.map (·.1)) path ix) (hl : path[path.length - 1]? = some u) : IPath A av u v path.reverse := by
  have hlen := b.len
  have hpos := b.pos
  have ksinj : ∀ i j (x : Int), (ps.map (·.1))[i]? = some x → (ps.map (·.1))[j]? = some x → i = j := fun i j x h1 h2 => by
    obtain ⟨p1, e1⟩ := List.getElem?_eq_some_iff.mp h1
    obtain ⟨p2, e2⟩ := List.getElem?_eq_some_iff.mp h2
    exact (List.getElem_inj nd).mp (e1.trans e2.symm)
  have ixlt : ∀ s t (hs : s < ix.length) (ht : t < ix.length), s < t → ix[t] < ix[s] := fun s t hs ht h => List.pairwise_iff_getElem.mp b.dec s t hs ht h
  have inj : ∀ s t (hs : s < path.length) (ht : t < path.length), s < t → path[s] ≠ path[t] := fun s t hs ht h e => by
    have a1 := b.at_ s ix[s] path[s] (List.getElem?_eq_getElem (by omega)) (List.getElem?_eq_getElem hs)
    have a2 := b.at_ t ix[t] path[t] (List.getElem?_eq_getElem (by omega)) (List.getElem?_eq_getElem ht)
    rw [e] at a1
    have := ksinj _ _ _ a1 a2
    have := ixlt s t (by omega) (by omega) h
    omega
  -- back along the path: the only edge to an earlier vertex is the one to the next
  have chord : ∀ s t (hs : s < path.length) (ht : t < path.length), s < t → (A path[t] path[s] ↔ t = s + 1) := fun s t hs ht h => by
    have hs1 : s + 1 < path.length := by omega
    have nx := b.nxt s ix[s] ix[s + 1] path[s] path[s + 1] (List.getElem?_eq_getElem (by omega)) (List.getElem?_eq_getElem (by omega)) (List.getElem?_eq_getElem hs) (List.getElem?_eq_getElem hs1)
    constructor
    · intro z
      apply Classical.byContradiction
      intro hn
      have a2 := b.at_ t ix[t] path[t] (List.getElem?_eq_getElem (by omega)) (List.getElem?_eq_getElem ht)
      exact nx.2 ix[t] path[t] (ixlt (s + 1) t (by omega) (by omega) (by omega)) a2 z
    · intro e
      subst e
      exact nx.1
  refine ⟨?_, ?_, ?_, ?_, ?_⟩
  · rw [List.getElem?_reverse hpos]
    exact hl
  · rw [List.length_reverse, List.getElem?_reverse (by omega)]
    rw [show path.length - 1 - (path.length - 1) = 0 by omega]
    exact b.head
  · rw [List.nodup_iff_pairwise_ne] at *
    refine List.pairwise_iff_getElem.mpr fun i j hi hj hij => ?_
    rw [List.getElem_reverse, List.getElem_reverse]
    rw [List.length_reverse] at hi hj
    exact fun e => inj _ _ _ _ (by omega) e.symm
  · intro x hx
    exact b.ok x (List.mem_reverse.mp hx)
  · intro i j hi hj hij
    rw [List.getElem_reverse, List.getElem_reverse]
    rw [List.length_reverse] at hi hj
    have := chord (path.length - 1 - j) (path.length - 1 - i) (by omega) (by omega) (by omega)
    rw [this]
    omega
end
/-- find_hole's answer is a hole -/
theorem hole_of {A : Int → Int → Prop} (sym : ∀ u v, A u v → A v u) (irr : ∀ u, ¬ A u u) {v a b : Int} {R : List Int} (ha : A v a) (hb : A v b) (hab : ¬ A a b) (hne : a ≠ b) {av : Int → Prop}
    (hav : ∀ x, av x ↔ x = v ∨ (A v x ∧ x ≠ a ∧ x ≠ b)) (p : IPath A av a b R) : HoleP A (v :: R) := by
  have hva : v ≠ a := fun e => irr v (by rw [← e] at ha; exact ha)
  obtain ⟨p0, e0⟩ := List.getElem?_eq_some_iff.mp p.head
  obtain ⟨p1, e1⟩ := List.getElem?_eq_some_iff.mp p.last
  have h2 : 3 ≤ R.length := by
    apply Classical.byContradiction
    intro h
    have h1 : R.length = 1 ∨ R.length = 2 := by omega
    rcases h1 with h1 | h1
    · apply hne
      rw [← e0, ← e1]
      congr 1
      omega
    · apply hab
      rw [← e0, ← e1]
      exact (p.adj 0 (R.length - 1) (by omega) (by omega) (by omega)).mpr (by omega)
  have nv : ∀ x ∈ R, x ≠ v := fun x hx e => by
    rcases p.ok x hx with h | h
    · exact hva (e.symm.trans h)
    · exact h ((hav x).mpr (.inl e))
  have inj : ∀ i j (hi : i < R.length) (hj : j < R.length), R[i] = R[j] → i = j := fun i j hi hj e => (List.getElem_inj p.nd).mp e
  -- v's edges into R
  have ve : ∀ j (hj : j < R.length), A v R[j] ↔ (j = 0 ∨ j = R.length - 1) := fun j hj => by
    constructor
    · intro z
      rcases p.ok R[j] (List.getElem_mem hj) with h | h
      · exact .inl (inj _ _ _ _ (h.trans e0.symm))
      · rw [hav] at h
        by_cases h3 : R[j] = a
        · exact .inl (inj _ _ _ _ (h3.trans e0.symm))
        · by_cases h4 : R[j] = b
          · exact .inr (inj _ _ _ _ (h4.trans e1.symm))
          · exact absurd (.inr ⟨z, h3, h4⟩) h
    · intro z
      rcases z with z | z
      · subst z
        rw [e0]
        exact ha
      · subst z
        rw [e1]
        exact hb
  refine ⟨by simp; omega, ?_, ?_⟩
  · exact List.nodup_cons.mpr ⟨fun h => nv v h rfl, p.nd⟩
  · have half : ∀ i j (hi : i < (v :: R).length) (hj : j < (v :: R).length), i < j → (A (v :: R)[i] (v :: R)[j] ↔ near (v :: R).length i j) := by
      intro i j hi hj hij
      match j, hj with
      | 0, _ => omega
      | j + 1, hj =>
        match i, hi with
        | 0, _ =>
          have hj' : j < R.length := by simpa using hj
          show A v R[j] ↔ _
          rw [ve j hj']
          unfold near
          simp only [List.length_cons, true_and]
          omega
        | i + 1, hi =>
          have hj' : j < R.length := by simpa using hj
          have hi' : i < R.length := by simpa using hi
          show A R[i] R[j] ↔ _
          rw [p.adj i j hi' hj' (by omega)]
          unfold near
          simp only [List.length_cons]
          omega
    intro i j hi hj hne'
    rcases Nat.lt_or_gt_of_ne hne' with h | h
    · exact half i j hi hj h
    · have q := half j i hj hi h
      constructor
      · intro z
        have := q.mp (sym _ _ z)
        unfold near at *
        omega
      · intro z
        apply sym
        apply q.mpr
        unfold near at *
        omega
end Tr
namespace Tr
/-! ### the law's ring over a hole's vertices -/
def ringMore (B : Int → Int → Bool) (M ring : List Int) : List Int := M.filter fun v => !decide (v ∈ ring) && B (ring.getLastD 0) v
def ringStep (B : Int → Int → Bool) (M ring : List Int) : List Int := match ringMore B M ring with
  | [] => ring
  | x :: _ => ring ++ [x]
def iterN {α : Type} (f : α → α) (a : α) : Nat → α
  | 0 => a
  | n + 1 => f (iterN f a n)
def ringOf (B : Int → Int → Bool) (M : List Int) : List Int := iterN (ringStep B M) [M.headD 0] (M.length - 1)
def turn (f : Nat → Nat) (h : List Int) : List Int := (List.range h.length).map fun i => h.getD (f i) 0
theorem turn_len (f : Nat → Nat) (h : List Int) : (turn f h).length = h.length := by simp [turn]
theorem turn_at {f : Nat → Nat} {h : List Int} {i : Nat} (hi : i < (turn f h).length) (hf : f i < h.length) : (turn f h)[i] = h[f i] := by
  simp only [turn, List.getElem_map, List.getElem_range]
  rw [List.getD_eq_getElem?_getD, List.getElem?_eq_getElem hf]
  rfl
structure Spin (L : Nat) (f : Nat → Nat) : Prop where
  lt : ∀ i, i < L → f i < L
  inj : ∀ i j, i < L → j < L → f i = f j → i = j
  sur : ∀ i, i < L → ∃ j, j < L ∧ f j = i
  near : ∀ i j, i < L → j < L → i ≠ j → (near L (f i) (f j) ↔ near L i j)
theorem turn_hole {A : Int → Int → Prop} {f : Nat → Nat} {h : List Int} (H : HoleP A h) (S : Spin h.length f) : HoleP A (turn f h) := by
  have hl := turn_len f h
  refine ⟨by rw [hl]; exact H.len, ?_, ?_⟩
  · rw [List.nodup_iff_pairwise_ne]
    refine List.pairwise_iff_getElem.mpr fun i j hi hj hij e => ?_
    rw [hl] at hi hj
    rw [turn_at (by omega) (S.lt i hi), turn_at (by omega) (S.lt j hj)] at e
    have := S.inj i j hi hj ((List.getElem_inj H.nd).mp e)
    omega
  · intro i j hi hj hne
    rw [hl] at hi hj
    rw [turn_at (by omega) (S.lt i hi), turn_at (by omega) (S.lt j hj), hl, ← S.near i j hi hj hne]
    exact H.adj _ _ (S.lt i hi) (S.lt j hj) fun e => hne (S.inj i j hi hj e)
theorem turn_mem {f : Nat → Nat} {h : List Int} (S : Spin h.length f) (x : Int) : x ∈ turn f h ↔ x ∈ h := by
  constructor
  · intro hx
    obtain ⟨i, hi, e⟩ := List.mem_iff_getElem.mp hx
    rw [turn_len] at hi
    rw [turn_at (by rw [turn_len]; exact hi) (S.lt i hi)] at e
    exact e ▸ List.getElem_mem _
  · intro hx
    obtain ⟨i, hi, e⟩ := List.mem_iff_getElem.mp hx
    obtain ⟨j, hj, e2⟩ := S.sur i hi
    have : (turn f h)[j]'(by rw [turn_len]; exact hj) = x := by
      rw [turn_at (by rw [turn_len]; exact hj) (S.lt j hj)]
      rw [← e]
      congr 1
    exact this ▸ List.getElem_mem _
def spinP (s L i : Nat) : Nat := if s + i < L then s + i else s + i - L
def spinM (s L i : Nat) : Nat := if i ≤ s then s - i else s + L - i
theorem spinP_ok {s L : Nat} (hs : s < L) (hL : 4 ≤ L) : Spin L (spinP s L) := by
  refine ⟨?_, ?_, ?_, ?_⟩
  · intro i hi
    unfold spinP
    split <;> omega
  · intro i j hi hj
    unfold spinP
    split <;> split <;> omega
  · intro i hi
    by_cases h : s ≤ i
    · exact ⟨i - s, by omega, by unfold spinP; rw [if_pos (by omega)]; omega⟩
    · exact ⟨i + L - s, by omega, by unfold spinP; rw [if_neg (by omega)]; omega⟩
  · intro i j hi hj hne
    unfold spinP near
    split <;> split <;> omega
theorem spinM_ok {s L : Nat} (hs : s < L) (hL : 4 ≤ L) : Spin L (spinM s L) := by
  refine ⟨?_, ?_, ?_, ?_⟩
  · intro i hi
    unfold spinM
    split <;> omega
  · intro i j hi hj
    unfold spinM
    split <;> split <;> omega
  · intro i hi
    by_cases h : i ≤ s
    · exact ⟨s - i, by omega, by unfold spinM; rw [if_pos (by omega)]; omega⟩
    · exact ⟨s + L - i, by omega, by unfold spinM; rw [if_neg (by omega)]; omega⟩
  · intro i j hi hj hne
    unfold spinM near
    split <;> split <;> omega
section
variable {A : Int → Int → Prop} {B : Int → Int → Bool} (dec : ∀ u v, B u v = true ↔ A u v)
theorem mem_more {M ring : List Int} {v : Int} (dec : ∀ u v, B u v = true ↔ A u v) : v ∈ ringMore B M ring ↔ v ∈ M ∧ v ∉ ring ∧ A (ring.getLastD 0) v := by
  simp [ringMore, dec]
theorem ring_along (dec : ∀ u v, B u v = true ↔ A u v) {M g : List Int} (H : HoleP A g) (mem : ∀ x, x ∈ M ↔ x ∈ g) {m0 : Int} (h0 : g[0]'(by have := H.len; omega) = m0) {t : List Int} (h1 : ringMore B M [m0] = g[1]'(by have := H.len; omega) :: t) :
    ∀ k, k < g.length → iterN (ringStep B M) [m0] k = g.take (k + 1) := by
  have hL := H.len
  have inj : ∀ i j (hi : i < g.length) (hj : j < g.length), g[i] = g[j] → i = j := fun i j hi hj e => (List.getElem_inj H.nd).mp e
  intro k
  induction k with
  | zero =>
    intro hk
    rw [List.take_add_one, List.getElem?_eq_getElem hk, h0]
    rfl
  | succ k ih =>
    intro hk
    have e := ih (by omega)
    show ringStep B M (iterN (ringStep B M) [m0] k) = _
    rw [e]
    have lst : (g.take (k + 1)).getLastD 0 = g[k] := by
      rw [List.getLastD_eq_getLast?, List.getLast?_eq_getElem?, List.length_take, List.getElem?_take]
      rw [if_pos (by omega), show min (k + 1) g.length - 1 = k by omega, List.getElem?_eq_getElem (by omega)]
      rfl
    have more : ∃ t, ringMore B M (g.take (k + 1)) = g[k + 1] :: t := by
      by_cases hk0 : k = 0
      · subst hk0
        refine ⟨t, ?_⟩
        rw [← h1]
        congr 1
        rw [← e]
        rfl
      · have only : ∀ v, v ∈ ringMore B M (g.take (k + 1)) → v = g[k + 1] := by
          intro v hv
          rw [mem_more dec, lst] at hv
          obtain ⟨hv1, hv2, hv3⟩ := hv
          obtain ⟨j, hj, ej⟩ := List.mem_iff_getElem.mp ((mem v).mp hv1)
          have hjk : k + 1 ≤ j := by
            apply Classical.byContradiction
            intro hn
            apply hv2
            rw [← ej]
            have hj2 : j < (g.take (k + 1)).length := by
              rw [List.length_take]
              omega
            have : (g.take (k + 1))[j] = g[j] := by rw [List.getElem_take]
            exact this ▸ List.getElem_mem hj2
          rw [← ej] at hv3 ⊢
          have := (H.adj k j (by omega) hj (by omega)).mp hv3
          unfold near at this
          congr 1
          omega
        have has : g[k + 1] ∈ ringMore B M (g.take (k + 1)) := by
          rw [mem_more dec, lst]
          refine ⟨(mem _).mpr (List.getElem_mem _), ?_, (H.adj k (k + 1) (by omega) hk (by omega)).mpr (by unfold near; omega)⟩
          intro hm
          obtain ⟨j, hj, ej⟩ := List.mem_iff_getElem.mp hm
          rw [List.length_take] at hj
          rw [List.getElem_take] at ej
          have := inj _ _ _ _ ej
          omega
        cases hr : ringMore B M (g.take (k + 1)) with
        | nil =>
          rw [hr] at has
          cases has
        | cons x r =>
          refine ⟨r, ?_⟩
          rw [only x (by rw [hr]; exact List.mem_cons_self)]
    obtain ⟨t', ht⟩ := more
    unfold ringStep
    rw [ht]
    show g.take (k + 1) ++ [g[k + 1]] = g.take (k + 1 + 1)
    rw [List.take_add_one (i := k + 1), List.getElem?_eq_getElem hk]
    rfl
theorem ring_hole (dec : ∀ u v, B u v = true ↔ A u v) {M h : List Int} (H : HoleP A h) (nd : M.Nodup) (mem : ∀ x, x ∈ M ↔ x ∈ h) : (ringOf B M).length = M.length ∧ HoleP A (ringOf B M) := by
  have hL := H.len
  have hlen : M.length = h.length := by
    have p : M.Perm h := (List.perm_ext_iff_of_nodup nd H.nd).mpr mem
    exact p.length_eq
  obtain ⟨m0, r0, rfl⟩ : ∃ m0 r0, M = m0 :: r0 := by
    cases M with
    | nil =>
      simp at hlen
      omega
    | cons x r => exact ⟨x, r, rfl⟩
  obtain ⟨s, hs, es⟩ := List.mem_iff_getElem.mp ((mem m0).mp List.mem_cons_self)
  -- the first step
  have first : ∃ f x t, Spin h.length f ∧ f 0 = s ∧ ringMore B (m0 :: r0) [m0] = x :: t ∧ ∃ hf : f 1 < h.length, h[f 1] = x := by
    have lst : ([m0] : List Int).getLastD 0 = m0 := rfl
    have P := spinP_ok hs hL
    have has : h[spinP s h.length 1]'(P.lt 1 (by omega)) ∈ ringMore B (m0 :: r0) [m0] := by
      rw [mem_more dec, lst]
      have ne : s ≠ spinP s h.length 1 := by
        unfold spinP
        split <;> omega
      refine ⟨(mem _).mpr (List.getElem_mem _), ?_, ?_⟩
      · intro z
        simp only [List.mem_singleton] at z
        rw [← es] at z
        exact ne ((List.getElem_inj H.nd).mp z).symm
      · rw [← es]
        refine (H.adj _ _ hs (P.lt 1 (by omega)) ne).mpr ?_
        unfold near spinP
        split <;> omega
    cases hr : ringMore B (m0 :: r0) [m0] with
    | nil =>
      rw [hr] at has
      cases has
    | cons x t =>
      have hx : x ∈ ringMore B (m0 :: r0) [m0] := by
        rw [hr]
        exact List.mem_cons_self
      rw [mem_more dec, lst] at hx
      obtain ⟨hx1, hx2, hx3⟩ := hx
      obtain ⟨j, hj, ej⟩ := List.mem_iff_getElem.mp ((mem x).mp hx1)
      have hsj : s ≠ j := by
        intro z
        subst z
        apply hx2
        simp only [List.mem_singleton]
        exact ej.symm.trans es
      have hn : near h.length s j := by
        rw [← es, ← ej] at hx3
        exact (H.adj s j hs hj hsj).mp hx3
      by_cases hp : j = spinP s h.length 1
      · refine ⟨spinP s h.length, x, t, P, by unfold spinP; rw [if_pos (by omega)]; omega, rfl, P.lt 1 (by omega), ?_⟩
        rw [← ej]
        congr 1
        exact hp.symm
      · have Mq := spinM_ok hs hL
        refine ⟨spinM s h.length, x, t, Mq, by unfold spinM; rw [if_pos (by omega)]; omega, rfl, Mq.lt 1 (by omega), ?_⟩
        rw [← ej]
        congr 1
        unfold near at hn
        unfold spinP at hp
        unfold spinM
        split at hp <;> split <;> omega
  obtain ⟨f, x, t, S, f0, hm, hf1, ex⟩ := first
  have G := turn_hole H S
  have gl := turn_len f h
  have g0 : (turn f h)[0]'(by rw [gl]; omega) = m0 := by
    rw [turn_at (by rw [gl]; omega) (S.lt 0 (by omega)), ← es]
    congr 1
  have g1 : (turn f h)[1]'(by rw [gl]; omega) = x := by
    rw [turn_at (by rw [gl]; omega) hf1, ex]
  have memg : ∀ y, y ∈ m0 :: r0 ↔ y ∈ turn f h := fun y => (mem y).trans (turn_mem S y).symm
  have key := ring_along dec G memg g0 (t := t) (by rw [g1]; exact hm) (h.length - 1) (by rw [gl]; omega)
  have e : ringOf B (m0 :: r0) = turn f h := by
    unfold ringOf
    show iterN (ringStep B (m0 :: r0)) [m0] ((m0 :: r0).length - 1) = _
    rw [hlen, key, List.take_of_length_le (by rw [gl]; omega)]
  rw [e]
  exact ⟨by rw [gl, hlen], G⟩
end
/-! two neighbours each -/
theorem len_two {L : List Int} {a b : Int} (nd : L.Nodup) (hne : a ≠ b) (h : ∀ x, x ∈ L ↔ x = a ∨ x = b) : L.length = 2 := by
  have p : L.Perm [a, b] := (List.perm_ext_iff_of_nodup nd (by simp [hne])).mpr (by simpa using h)
  exact p.length_eq
theorem hole_deg {A : Int → Int → Prop} {h L : List Int} {v : Int} (irr : ∀ u, ¬ A u u) (H : HoleP A h) (hv : v ∈ h) (nd : L.Nodup) (mem : ∀ x, x ∈ L ↔ x ∈ h ∧ A v x) : L.length = 2 := by
  have hL := H.len
  obtain ⟨s, hs, es⟩ := List.mem_iff_getElem.mp hv
  have P := spinP_ok hs hL
  have Q := spinM_ok hs hL
  have ne : spinP s h.length 1 ≠ spinM s h.length 1 := by
    unfold spinP spinM
    split <;> split <;> omega
  refine len_two (a := h[spinP s h.length 1]'(P.lt 1 (by omega))) (b := h[spinM s h.length 1]'(Q.lt 1 (by omega))) nd (fun e => ne ((List.getElem_inj H.nd).mp e)) fun x => ?_
  rw [mem]
  constructor
  · intro ⟨hx, ha⟩
    obtain ⟨j, hj, ej⟩ := List.mem_iff_getElem.mp hx
    have hsj : s ≠ j := by
      intro z
      subst z
      rw [← ej, ← es] at ha
      exact irr _ ha
    rw [← ej, ← es] at ha
    have hn := (H.adj s j hs hj hsj).mp ha
    unfold near at hn
    have : j = spinP s h.length 1 ∨ j = spinM s h.length 1 := by
      unfold spinP spinM
      split <;> split <;> omega
    rcases this with z | z
    · left
      rw [← ej]
      congr 1
    · right
      rw [← ej]
      congr 1
  · intro hx
    have go : ∀ j (hj : j < h.length), j ≠ s → near h.length s j → h[j] ∈ h ∧ A v h[j] := fun j hj hne hn => ⟨List.getElem_mem _, by
      rw [← es]
      exact (H.adj s j hs hj (Ne.symm hne)).mpr hn⟩
    rcases hx with rfl | rfl
    · refine go _ _ ?_ ?_
      · unfold spinP
        split <;> omega
      · unfold near spinP
        split <;> omega
    · refine go _ _ ?_ ?_
      · unfold spinM
        split <;> omega
      · unfold near spinM
        split <;> omega
end Tr
namespace Tr
structure RingI (A : Int → Int → Prop) (M R : List Int) : Prop where
  ne : R ≠ []
  nd : R.Nodup
  sub : ∀ x ∈ R, x ∈ M
  nxt : ∀ i (h : i + 1 < R.length), A R[i] R[i + 1]
theorem ring_step {A : Int → Int → Prop} {B : Int → Int → Bool} (dec : ∀ u v, B u v = true ↔ A u v) {M R : List Int} (I : RingI A M R) : RingI A M (ringStep B M R) := by
  unfold ringStep
  cases h : ringMore B M R with
  | nil => exact I
  | cons x t =>
    have hx : x ∈ ringMore B M R := by
      rw [h]
      exact List.mem_cons_self
    rw [mem_more dec] at hx
    obtain ⟨h1, h2, h3⟩ := hx
    show RingI A M (R ++ [x])
    refine ⟨by simp, ?_, ?_, ?_⟩
    · rw [List.nodup_append]
      refine ⟨I.nd, by simp, fun a ha b hb => ?_⟩
      have : b = x := by simpa using hb
      subst this
      exact fun z => h2 (z ▸ ha)
    · intro y hy
      rcases List.mem_append.mp hy with hy | hy
      · exact I.sub y hy
      · have : y = x := by simpa using hy
        rw [this]
        exact h1
    · intro i hi
      rw [List.length_append] at hi
      simp only [List.length_cons, List.length_nil] at hi
      by_cases hlt : i + 1 < R.length
      · rw [List.getElem_append_left hlt, List.getElem_append_left (by omega)]
        exact I.nxt i hlt
      · have e1 : (R ++ [x])[i + 1]'(by rw [List.length_append]; exact hi) = x := by
          rw [List.getElem_append_right (by omega)]
          simp
        have hl : R.getLastD 0 = R[i]'(by omega) := by
          rw [List.getLastD_eq_getLast?, List.getLast?_eq_getElem?, List.getElem?_eq_getElem (by have := List.length_pos_iff.mpr I.ne; omega)]
          simp only [Option.getD_some]
          congr 1
          omega
        rw [e1, List.getElem_append_left (by omega), ← hl]
        exact h3
theorem ring_inv {A : Int → Int → Prop} {B : Int → Int → Bool} (dec : ∀ u v, B u v = true ↔ A u v) {M : List Int} (h : M ≠ []) (k : Nat) : RingI A M (iterN (ringStep B M) [M.headD 0] k) := by
  induction k with
  | zero =>
    refine ⟨by simp [iterN], by simp [iterN], ?_, ?_⟩
    · intro x hx
      have : x = M.headD 0 := by simpa [iterN] using hx
      rw [this]
      cases M with
      | nil => exact absurd rfl h
      | cons a r => exact List.mem_cons_self
    · intro i hi
      simp [iterN] at hi
  | succ k ih => exact ring_step dec ih
/-- the law's ring over a set with two neighbours each, when it covers the set -/
theorem ring_two {A : Int → Int → Prop} {B : Int → Int → Bool} (dec : ∀ u v, B u v = true ↔ A u v) (sym : ∀ u v, A u v → A v u) (irr : ∀ u, ¬ A u u) {M : List Int} (nd : M.Nodup) (h3 : 3 < M.length)
    (deg : ∀ v ∈ M, ∃ a b, a ≠ b ∧ a ∈ M ∧ A v a ∧ b ∈ M ∧ A v b ∧ ∀ x ∈ M, A v x → x = a ∨ x = b) (hl : (ringOf B M).length = M.length) : HoleP A (ringOf B M) := by
  have I : RingI A M (ringOf B M) := ring_inv dec (List.ne_nil_of_length_pos (by omega)) _
  generalize ringOf B M = R at I hl
  have all : ∀ x, x ∈ M → x ∈ R := by
    intro x hx
    apply Classical.byContradiction
    intro hn
    have h1 : (x :: R).Nodup := List.nodup_cons.mpr ⟨hn, I.nd⟩
    have h2 : ∀ y ∈ x :: R, y ∈ M := fun y hy => by
      rcases List.mem_cons.mp hy with rfl | hy
      · exact hx
      · exact I.sub y hy
    have h4 : ∀ {l m : List Int}, l.Nodup → (∀ x ∈ l, x ∈ m) → l.length ≤ m.length := by
      intro l
      induction l with
      | nil => intros; exact Nat.zero_le _
      | cons a r ih =>
        intro m nd h
        have nd2 := List.nodup_cons.mp nd
        have ha : a ∈ m := h a List.mem_cons_self
        have := ih (m := m.erase a) nd2.2 fun x hx => (List.mem_erase_of_ne (fun z : x = a => nd2.1 (by rw [← z]; exact hx))).mpr (h x (List.mem_cons_of_mem _ hx))
        have e := List.length_erase_of_mem ha
        have hp : 0 < m.length := List.length_pos_of_mem ha
        simp only [List.length_cons]
        omega
    have := h4 h1 h2
    simp only [List.length_cons] at this
    omega
  have inj : ∀ i j (hi : i < R.length) (hj : j < R.length), R[i] = R[j] → i = j := fun i j hi hj e => (List.getElem_inj I.nd).mp e
  -- inner members: the two beside
  have inner : ∀ i j (hi : i < R.length) (hj : j < R.length), 0 < i → i + 1 < R.length → A R[i] R[j] → j = i + 1 ∨ i = j + 1 := by
    intro i j hi hj h0 h1 ha
    obtain ⟨a, b, hab, am, aa, bm, ab, only⟩ := deg R[i] (I.sub _ (List.getElem_mem _))
    have n1 := I.nxt i h1
    have n2 : A R[i] (R[i - 1]'(by omega)) := by
      have := I.nxt (i - 1) (by omega)
      have e : R[i - 1 + 1]'(by omega) = R[i] := by
        congr 1
        omega
      rw [e] at this
      exact sym _ _ this
    have o1 := only _ (I.sub _ (List.getElem_mem _)) n1
    have o2 := only _ (I.sub _ (List.getElem_mem _)) n2
    have o3 := only _ (I.sub _ (List.getElem_mem _)) ha
    have ne12 : R[i + 1] ≠ R[i - 1]'(by omega) := fun e => by
      have := inj _ _ h1 (by omega) e
      omega
    rcases o3 with o3 | o3
    · rcases o1 with o1 | o1
      · left
        exact inj _ _ hj h1 (o3.trans o1.symm)
      · rcases o2 with o2 | o2
        · right
          have := inj _ _ hj (by omega) (o3.trans o2.symm)
          omega
        · exact absurd (o1.trans o2.symm) ne12
    · rcases o1 with o1 | o1
      · rcases o2 with o2 | o2
        · exact absurd (o1.trans o2.symm) ne12
        · right
          have := inj _ _ hj (by omega) (o3.trans o2.symm)
          omega
      · left
        exact inj _ _ hj h1 (o3.trans o1.symm)
  have ends : A (R[0]'(by omega)) (R[R.length - 1]'(by omega)) := by
    obtain ⟨a, b, hab, am, aa, bm, ab, only⟩ := deg (R[0]'(by omega)) (I.sub _ (List.getElem_mem _))
    have pick : ∀ c, c ∈ M → A (R[0]'(by omega)) c → c ≠ R[1]'(by omega) → A (R[0]'(by omega)) (R[R.length - 1]'(by omega)) := by
      intro c cm ca cn
      obtain ⟨j, hj, ej⟩ := List.mem_iff_getElem.mp (all c cm)
      by_cases hl2 : j + 1 = R.length
      · have e : R[R.length - 1]'(by omega) = c := by
          rw [← ej]
          congr 1
          omega
        rw [e]
        exact ca
      · have h0 : 0 < j := by
          rcases Nat.eq_zero_or_pos j with z | z
          · subst z
            rw [← ej] at ca
            exact absurd ca (irr _)
          · exact z
        rw [← ej] at ca
        have := inner j 0 hj (by omega) h0 (by omega) (sym _ _ ca)
        have hj1 : j = 1 := by omega
        subst hj1
        exact absurd ej.symm cn
    by_cases h1 : a = R[1]'(by omega)
    · exact pick b bm ab fun e => hab (h1.trans e.symm)
    · exact pick a am aa h1
  refine ⟨by omega, I.nd, fun i j hi hj hij => ⟨fun ha => ?_, fun hn => ?_⟩⟩
  · unfold near
    by_cases h1 : 0 < i ∧ i + 1 < R.length
    · have := inner i j hi hj h1.1 h1.2 ha
      omega
    · by_cases h2 : 0 < j ∧ j + 1 < R.length
      · have := inner j i hj hi h2.1 h2.2 (sym _ _ ha)
        omega
      · omega
  · unfold near at hn
    rcases hn with rfl | rfl | ⟨rfl, hn⟩ | ⟨rfl, hn⟩
    · exact I.nxt i hj
    · exact sym _ _ (I.nxt j hi)
    · have e : R[R.length - 1]'(by omega) = R[j] := by
        congr 1
        omega
      rw [← e]
      exact ends
    · have e : R[R.length - 1]'(by omega) = R[i] := by
        congr 1
        omega
      rw [← e]
      exact sym _ _ ends
end Tr
namespace Tr
open PySem PySem.Spec PyProof.Rows L2 Evl
section
variable {X : Cx}
/-! ### in and not in over a tuple of data -/
def rInT (K : PySem.W.Frag) (neg : Bool) : R2 := fun x y H Q => ∃ d ds, Dp K H x d ∧ Dp K H y (.tuple ds) ∧ SeqAt.shaped d = true ∧ SeqAt.shaped (.tuple ds) = true ∧ Q (.bl (if neg then !(ds.any fun z => PyData.eqv z d) else ds.any fun z => PyData.eqv z d)) H
theorem room_tup {A : Around} {d : PyData} {ds : List PyData} (sd : SeqAt.shaped d = true) (hu : A.units + 65 < cLine) : A.units + 1 + min (PyData.depthAll ds) d.depth < cLine := room_in_shaped sd hu
theorem op_inTu (hu : X.A.units + 65 < cLine) : OpR X (compareOp .In) (rInT X.K false) := by
  intro pins s σ H x y v u Q I rx ry h
  obtain ⟨d, ds, hd, he, sd, se, q⟩ := h
  obtain ⟨as, r1⟩ := Dp.reads I d x v hd rx
  obtain ⟨bs, r2⟩ := Dp.reads I (.tuple ds) y u he ry
  exact SeqAt.in_tuple_reads r2 r1 (SeqAt.canLay_of_shaped se) (SeqAt.canLay_of_shaped sd) (room_tup sd hu) ⟨.bl _, H, I, rfl, q⟩
theorem op_niTu (hu : X.A.units + 65 < cLine) : OpR X (compareOp .NotIn) (rInT X.K true) := by
  intro pins s σ H x y v u Q I rx ry h
  obtain ⟨d, ds, hd, he, sd, se, q⟩ := h
  obtain ⟨as, r1⟩ := Dp.reads I d x v hd rx
  obtain ⟨bs, r2⟩ := Dp.reads I (.tuple ds) y u he ry
  exact SeqAt.notIn_tuple_reads r2 r1 (SeqAt.canLay_of_shaped se) (SeqAt.canLay_of_shaped sd) (room_tup sd hu) ⟨.bl _, H, I, rfl, q⟩
/-! ### len(set(a tuple of different ints)) -/
def tLenSetT (K : PySem.W.Frag) (ta : TE) : TE := fun σ H Q => ta σ H fun x H1 => ∃ (l : Addr) (ns : List Int), x = V.ref l ∧ SqT K H1 l (ns.map V.int) ∧ ns.Nodup ∧ ns.length ≤ 4000 ∧ Q (.int (ns.length : Nat)) H1
theorem setR_size {w : World} {h : Heap} {a : Addr} {ns : List Int} {c : Nat} (R : SetR w h a (fun j => decide (j ∈ ns)) c) (nd : ns.Nodup) : c = ns.length := by
  obtain ⟨o, es, ep, t, ho, hex, hd, hg, hn, hS, hb, hf, hz, _⟩ := R
  have p : ns.Perm (es.toList.map keyOf) := (List.perm_ext_iff_of_nodup nd hn).mpr fun k => by
    rw [← hS k]
    exact (decide_eq_true_iff).symm
  rw [← hz, p.length_eq, List.length_map, Array.length_toList]
theorem pe_lenSetT {a : Expr} {ta : TE} {p p2 q pos : Pos} (hg : Gl X "len") (hm : X.mg "len" = none) (hg2 : Gl X "set") (hm2 : X.mg "set" = none) (ha : PE X a ta) (hc : X.calm = true := by rfl)
    (na : starEach [a] X.env = (false, eval a X.env) :: starEach [] X.env := by rfl) : PE X (.Call (.Name "len" p) [.Call (.Name "set" p2) [a] [] q] [] pos) (tLenSetT X.K ta) := by
  refine ⟨fun pins s σ H Q I h => ?_⟩
  refine Call_ (ld_blt I hg hm boot_len (PyProof.Rows.callWith_builtin1 (PyProof.Rows.args_cons ?_ rfl) rfl rfl))
  refine Call_ (ld_blt I hg2 hm2 boot_set (PyProof.Rows.callWith_type1 (PyProof.Rows.args_cons (thn (ha.run pins s σ H _ I h) fun v s1 ⟨x, H1, I1, r1, q1⟩ => PyProof.Rows.args_nil ?_) na) na rfl))
  obtain ⟨l, ns, rfl, hq, nd, hl, q1⟩ := q1
  cases r1
  obtain ⟨its, r, pl, hz⟩ := I1.tuple hq
  refine call_set_tupI ns (I1.ok.hd hc) pl (by simpa using r.ints) (by unfold scanBound; omega) fun h' tk c hR hcl hk => PyProof.Rows.args_nil ?_
  have ec := setR_size hR nd
  obtain ⟨o, es, ep, t, ho, hex, hd, hgd, hn, hS, hb, hf, hsz, _⟩ := hR
  have I2 : Inv X pins σ H1 { s1 with heap := h', toks := tk } := I1.kept hk
  exact call_len_set ho hex hd hf (by omega) ⟨.int ns.length, H1, I2.tok _, ⟨_, by rw [hsz, ec]⟩, q1⟩
/-! ### enumerate over a tuple -/
def IteT (K : PySem.W.Frag) (a : Addr) : It :=
  ⟨fun i H => ∃ (xs : List V) (x : V), SqT K H a xs ∧ xs[i]? = some x, fun i H v H' => ∃ T x, v = .ref T ∧ H T = none ∧ H' = upd H T (.tup [.int (i : Nat), x]) ∧ ∀ xs, SqT K H a xs → xs[i]? = some x, fun i H => ∃ xs : List V, SqT K H a xs ∧ xs.length = i⟩
theorem turn_enumT {P : Program} {w : World} {K : PySem.W.Frag} {elts : List Expr} {kk : Nat} {tpos : Pos} (a e it : Addr) (hai : a ≠ it) (hae : a ≠ e) :
    Turn P w K (.Tuple elts kk tpos) (IteT K a) [e, it] e (fun i h => (∃ old, IsEnum h e it ((i : Nat) : Int) old) ∧ h.IsTupleIter it a i ∧ e ≠ it) where
  mem := by simp
  obj := fun i h st b hb => by
    obtain ⟨⟨old, he⟩, ⟨o, ho, hc, hd⟩, _⟩ := st
    rcases (show b = e ∨ b = it by simpa using hb) with z | z
    · subst z
      exact ⟨_, he, fun v q => nomatch q⟩
    · subst z
      exact ⟨o, ho, fun v q => by rw [hd] at q; cases q⟩
  keep := fun i h h' st k => let ⟨⟨old, he⟩, hi, hne⟩ := st; ⟨⟨old, k e (by simp) _ he⟩, hi.at fun o q => k it (by simp) o q, hne⟩
  item := by
    intro X hP hw hK hc i pins s σ H E I hf st hg
    subst hP hw hK
    obtain ⟨⟨old, he⟩, hit, hne⟩ := st
    obtain ⟨xs, x, hq, hx⟩ := hg
    obtain ⟨its, rv, p, hz⟩ := I.tuple hq
    obtain ⟨u, hu, ru⟩ := rv.get hx
    have hel : e < s.heap.objs.size := Heap.lt_size he
    have hil : it < s.heap.objs.size := by obtain ⟨_, q, _⟩ := hit; exact Heap.lt_size q
    have hlt : i < its.toArray.size := by
      have := (List.getElem?_eq_some_iff.mp hu).1
      simpa using this
    refine wpAny_pyNext_enum_itemD (Draws.tuple (A := X.A.in1) (by rw [show X.A.in1.handled = X.A.handled from rfl]; exact I.ok.hd hc) it a hai its.toArray) he ⟨hit, p⟩ hlt hne (by simp [hne, Ne.symm hae]) fun y h' tk hy ho hst hT hsz hk => ?_
    have ey : y = u := by
      have q1 : its.toArray[i]? = some y := hy
      have q2 : its.toArray[i]? = some u := by simpa using hu
      exact Option.some.inj (q1.symm.trans q2)
    subst ey
    refine ⟨_, rfl, wpAny_letOwnedTupleGo_enum (s := { s with heap := h', toks := tk + 1 }) ho fun h'' he' sb => ?_⟩
    have hT2 : h''.get? s.heap.objs.size = some { cls := .type "tuple", data := .seq #[.int i tk, y] } := (sb.2 _ (Nat.ne_of_gt hel)).trans hT
    have new : ObjOk X.prog X.w (upd H s.heap.objs.size (.tup [.int (i : Nat), x])) h'' s.heap.objs.size (.tup [.int (i : Nat), x]) :=
      ⟨by show 2 ≤ sizeLine; decide, [.int i tk, y], .cons ⟨_, rfl⟩ (.cons ru .nil), ⟨_, hT2, rfl, _, rfl⟩⟩
    have I1 : Inv X pins σ (upd H s.heap.objs.size (.tup [.int (i : Nat), x])) { s with heap := h'', toks := tk + 1 } :=
      I.turnedNew (ch := [e, it]) (fun b ob hb q => (sb.2 b (fun z => hb (by simp [z]))).trans (hk b ob (fun z => hb (by simp [z])) (fun z => hb (by simp [z])) q)) hf (Nat.le_refl _) new
    refine ⟨.ref s.heap.objs.size, _, I1, rfl, ⟨_, x, rfl, I.hok.fresh (Nat.le_refl _), rfl, fun ys hy => by rw [I.tuple_inj hy hq]; exact hx⟩, ⟨⟨y, ?_⟩, hst.1.at fun o q => (sb.2 it (Ne.symm hne)).trans q, hne⟩, fun b hb => ?_⟩
    · rw [show ((i + 1 : Nat) : Int) = (i : Int) + 1 by omega]
      exact he'
    · have hb' : b < s.heap.objs.size := by
        rcases (show b = e ∨ b = it by simpa using hb) with z | z
        · subst z
          exact hel
        · subst z
          exact hil
      rw [upd_ne (Nat.ne_of_lt hb')]
      exact (hf b hb).1
  done := by
    intro X hP hw hK hc i pins s σ H E I hf st hg
    subst hP hw hK
    obtain ⟨⟨old, he⟩, hit, hne⟩ := st
    obtain ⟨xs, hq, hx⟩ := hg
    obtain ⟨its, rv, p, hz⟩ := I.tuple hq
    obtain ⟨f0, f1, f2, f3, f4, f5⟩ := hf it (by simp)
    have hl := rv.length
    have hsz : its.toArray.size = i := by
      rw [List.size_toArray]
      omega
    have hh : X.A.in1.handled = none := by rw [show X.A.in1.handled = X.A.handled from rfl]; exact I.ok.hd hc
    subst hsz
    exact wpAny_pyNext_enum_endD (Draws.tuple (A := X.A.in1) hh it a hai its.toArray) he ⟨hit, p⟩ fun h' eb => ⟨rfl, I.turned (t' := s.toks) (fun b o hb q => eb b o hb q) f0 f1 f3 f4 f5⟩
  self := fun A i s Q E st h => let ⟨⟨_, he⟩, _⟩ := st; wpAny_pyIter_enum he h
theorem meets_enumB {v : Value} {o : Obj} {H : Heap → Prop} (B : Begins v o H) :
    Meets (Builtin.«enumerate.__new__» ⟨[.type "enumerate", v], []⟩) (fun _ R s => H s.heap ∧
      R (.ok (.ret (.ref (s.heap.push o).objs.size))) { s with heap := (s.heap.push o).push { cls := .type "enumerate", data := .fields #[.none, .bool false, .ref s.heap.objs.size, rawInt 0, .none, .none] } }) :=
  .of_wp fun prog w A R s h => by
    obtain ⟨hp, g, d, tk, os⟩ := s
    obtain ⟨h1, h⟩ := h
    have hsub := sub_enumerate
    have q1 : ∀ {A' : Around} {E : Value → Shared → Prop} {Q : Value → Shared → Prop}, Q (.ref hp.objs.size) ⟨hp.push o, g, d, tk, os⟩ → wpAny (model prog w) A' (pyIter v) Q E ⟨hp, g, d, tk, os⟩ :=
      fun q => B.iter prog w _ _ ⟨hp, g, d, tk, os⟩ _ h1 q
    wp_walk using q1
    refine wpAny_stack_any fun st => wpAny_pure ?_
    split
    · rename_i c _ _ _ _ _
      cases (c == Value.type "enumerate") <;> (wp_walk using q1; exact ⟨_, rfl, h⟩)
    · wp_walk using q1
      exact ⟨_, rfl, h⟩
theorem call_enumT {prog : Program} {w : World} {A : Around} {E : Value → Shared → Prop} {s : Shared} {l : Addr} {its : Array Value} {Q : Value → Shared → Prop} (hT : s.heap.IsTuple l its)
    (h : ∀ h', IsEnum h' (s.heap.objs.size + 1) s.heap.objs.size 0 .none → h'.IsTupleIter s.heap.objs.size l 0 → h'.objs.size = s.heap.objs.size + 2 →
      (∀ b o, s.heap.get? b = some o → h'.get? b = some o) → Q (.ref (s.heap.objs.size + 1)) { s with heap := h' }) :
    wpAny (model prog w) A (call (.type "enumerate") [.ref l]) Q E s := by
  have B := begins_tuple l its
  refine callType_new F.called_enumerate (by decide) (F.typeCall_enumerate_1 _) (F.newCall_enumerate_1 _) (fun obj => F.args_object_init_2 obj _) F.entry_enumerate_new (meets_enumB B) ⟨hT, ?_⟩
  let o : Obj := { cls := .type "tuple_iterator", data := .fields #[.ref l, .int 0 0] }
  have hz : (s.heap.push o).objs.size = s.heap.objs.size + 1 := Heap.size_push ..
  show _ ∧ _
  rw [hz]
  have he : IsEnum ((s.heap.push o).push { cls := .type "enumerate", data := .fields #[.none, .bool false, .ref s.heap.objs.size, rawInt 0, .none, .none] }) (s.heap.objs.size + 1) s.heap.objs.size 0 .none := by
    have q := Heap.get?_push_size (s.heap.push o) (o := { cls := .type "enumerate", data := .fields #[.none, .bool false, .ref s.heap.objs.size, rawInt 0, .none, .none] }) rfl
    rw [hz] at q
    exact q
  exact ⟨⟨_, he, rfl⟩, h _ he ⟨o, Heap.get?_push_of_some _ (Heap.get?_push_size _ rfl), rfl, rfl⟩ (by rw [Heap.size_push, hz]) fun b u x => Heap.get?_push_of_some _ (Heap.get?_push_of_some _ x)⟩
def iEnumT (K : PySem.W.Frag) (ta : TA) : TI := fun σ H R => ta σ H fun vs H1 => ∃ a xs, vs = [.ref a] ∧ SqT K H1 a xs ∧ R (IteT K a) H1
theorem pi_enumT {e : Expr} {ta : TA} {p pos tpos : Pos} {elts : List Expr} {kk : Nat} (hg : Gl X "enumerate") (hm : X.mg "enumerate" = none) (ha : PA X [e] ta) (hs : starEach [e] X.env = [(false, eval e X.env)] := by rfl) :
    PI X (.Tuple elts kk tpos) (.Call (.Name "enumerate" p) [e] [] pos) (iEnumT X.K ta) := by
  refine ⟨fun pins s σ H R I h => ?_⟩
  refine Call_ (ld_blt I hg hm boot_enumerate (PyProof.Rows.callWith_type1 (thn (ha.run pos pins s σ H _ I h) fun us s1 ⟨vs, H1, I1, r1, q1⟩ => ?_) hs rfl))
  obtain ⟨a, xs, ex, hq, q⟩ := q1
  subst ex
  cases r1 with
  | cons r rr =>
    cases rr
    cases r
    obtain ⟨its, rv, p', hz⟩ := I1.tuple hq
    have hal : a < s1.heap.objs.size := p'.lt
    refine call_enumT p' fun h' he hit hsz hk => wpAny_pyIter_enum he ?_
    have I2 : Inv X pins σ H1 { s1 with heap := h' } := I1.kept (t' := s1.toks) hk
    refine ⟨s1.heap.objs.size + 1, [s1.heap.objs.size + 1, s1.heap.objs.size], _, _, H1, rfl, I2, turn_enumT a (s1.heap.objs.size + 1) s1.heap.objs.size (Nat.ne_of_lt hal) (Nat.ne_of_lt (Nat.lt_succ_of_lt hal)), ⟨⟨.none, he⟩, hit, Nat.succ_ne_self _⟩, fun b hb => ?_, q⟩
    have hle : s1.heap.objs.size ≤ b := by
      rcases (show b = s1.heap.objs.size + 1 ∨ b = s1.heap.objs.size by simpa using hb) with z | z
      · rw [z]
        exact Nat.le_add_right _ _
      · rw [z]
        exact Nat.le_refl _
    exact I1.fpOk hle (I1.hok.fresh hle)
/-! ### min, max of a pair -/
def rMinP (K : PySem.W.Frag) : List V → Hp → VK → Prop := fun vs H Q => ∃ (a : Addr) (i j : Int), vs = [V.ref a] ∧ SqT K H a [.int i, .int j] ∧ Q (.int (if j < i then j else i)) H
def rMaxP (K : PySem.W.Frag) : List V → Hp → VK → Prop := fun vs H Q => ∃ (a : Addr) (i j : Int), vs = [V.ref a] ∧ SqT K H a [.int i, .int j] ∧ Q (.int (if j > i then j else i)) H
theorem reads_int {h : Heap} {v : Value} {k : Int} {bs : List Addr} (r : Reads h v (.int k) bs) : ∃ t, v = .int k t := by
  cases r with
  | int => exact ⟨_, rfl⟩
theorem alike_ints (i j : Int) : PySem.W.AlikeAll [.int i, .int j] := by
  refine ⟨?_, ?_⟩
  · intro x hx y hy
    simp only [List.mem_cons, List.not_mem_nil, or_false] at hx hy
    rcases hx with rfl | rfl <;> rcases hy with rfl | rfl <;> rfl
  · intro x hx
    simp only [List.mem_cons, List.not_mem_nil, or_false] at hx
    rcases hx with rfl | rfl <;> exact fun z => nomatch z
theorem cr_minP (hc : X.calm = true) (hu : X.A.units + 65 < cLine) : CallR X (.builtin "min") (rMinP X.K) := by
  intro pins s σ H vs us Q I r h
  obtain ⟨a, i, j, rfl, hs, q⟩ := h
  obtain ⟨its, rv, hl, _⟩ := I.tuple hs
  rw [Vals.ref1 r]
  obtain ⟨as, ra⟩ := Dp.readsAll I [.int i, .int j] [.int i, .int j] its (.cons (.int i) (.cons (.int j) .nil)) rv
  refine PySem.W.min_tuple_data (I.ok.hd hc) hl (by simpa using ra) (alike_ints i j) (by show X.A.units + 1 + _ < _; simp only [PyData.depthAll, PyData.depth]; omega) fun k v h' tk bs hv rd hk => ?_
  have e : PySem.W.minD (.int i) [.int j] = .int (if j < i then j else i) := by
    have e0 : PySem.W.minD (.int i) [.int j] = .int (min i j) := PySem.W.minD_ints i [j]
    rw [e0]
    congr 1
    split <;> omega
  rw [e] at rd
  obtain ⟨t, rfl⟩ := reads_int rd
  exact ⟨.int _, H, I.kept hk, ⟨_, rfl⟩, q⟩
theorem cr_maxP (hc : X.calm = true) (hu : X.A.units + 65 < cLine) : CallR X (.builtin "max") (rMaxP X.K) := by
  intro pins s σ H vs us Q I r h
  obtain ⟨a, i, j, rfl, hs, q⟩ := h
  obtain ⟨its, rv, hl, _⟩ := I.tuple hs
  rw [Vals.ref1 r]
  obtain ⟨as, ra⟩ := Dp.readsAll I [.int i, .int j] [.int i, .int j] its (.cons (.int i) (.cons (.int j) .nil)) rv
  refine PySem.W.max_tuple_data (I.ok.hd hc) hl (by simpa using ra) (alike_ints i j) (by show X.A.units + 1 + _ < _; simp only [PyData.depthAll, PyData.depth]; omega) fun k v h' tk bs hv rd hk => ?_
  have e : PySem.W.maxD (.int i) [.int j] = .int (if j > i then j else i) := by
    have e0 : PySem.W.maxD (.int i) [.int j] = .int (max i j) := PySem.W.maxD_ints i [j]
    rw [e0]
    congr 1
    split <;> omega
  rw [e] at rd
  obtain ⟨t, rfl⟩ := reads_int rd
  exact ⟨.int _, H, I.kept hk, ⟨_, rfl⟩, q⟩
end
end Tr
namespace Tr
open PySem PySem.Spec PyProof.Rows L2 Evl StX
open C8 (Cal pe_c pe_gc)
section
variable {P : Program} {w : World} {K : PySem.W.Frag} {mg : Str → Option Value} {base : Heap}
/-- no global hides these -/
structure Bt (mg : Str → Option Value) : Prop where
  all_ : mg "all" = none
  bool_ : mg "bool" = none
  enumerate_ : mg "enumerate" = none
  int_ : mg "int" = none
  isinstance_ : mg "isinstance" = none
  len_ : mg "len" = none
  list_ : mg "list" = none
  max_ : mg "max" = none
  min_ : mg "min" = none
  range_ : mg "range" = none
  set_ : mg "set" = none
  sorted_ : mg "sorted" = none
  str_ : mg "str" = none
  tuple_ : mg "tuple" = none
  zip_ : mg "zip" = none
/-- the def of the top's statement i stands at its name -/
def DefAt (K : PySem.W.Frag) (mg : Str → Option Value) (x : Str) (i : Nat) : Prop := ∃ f fd, FunD K x x (defArgs (top i)) (defBody (top i)) (defScope (top i)) [] [] f fd ∧ mg x = some (.ref f)
abbrev Ca (P : Program) (w : World) (K : PySem.W.Frag) (mg : Str → Option Value) (base : Heap) (k : Nat) (x : Str) (sp : Sp) : Prop := Cal P w K mg base k x sp []
theorem DefAt.mk {x : Str} {i : Nat} {N ps : List Str} {k : Nat} {sp : Sp} (D : DefAt K mg x i) (S : FnScope N ps (defScope (top i)))
    (hb : ∀ (kV doc pm : Value) (an : Option Addr) (cdv ct : Value) (us : List Value), us.length = ps.length → bindArgs (PySem.W.fnOf x x (defArgs (top i)) (defBody (top i)) (defScope (top i)) .none kV doc pm an cdv ct) ⟨us, []⟩ = pure (ps.zip us))
    (len : ∀ vs H Q E, sp vs H Q E → vs.length = ps.length)
    (body : ∀ (f : Addr) (cdv : Value) (A : Around) (outer : List Env) (s : Shared) (H : Hp) (vs : List V) (Q : VK) (E : XK), Room k (A.deeper (envOfC x (defScope (top i)) s.heap.objs.size f cdv)) → sp vs H Q E →
      ∃ t, PSs (cxOf CX0 P w K mg base N x (defScope (top i)) f cdv A outer s H E).nox (defBody (top i)) t ∧ t { nx := fun _ H' => Q .non H', rt := Q } (start N vs) H) : Ca P w K mg base (k + 1) x sp := by
  obtain ⟨f, fd, F, hf⟩ := D
  refine ⟨f, fd, ps, [], F.ok S len fun cdv A outer s H vs Q E hr h => ?_, hf, F.kp, F.bindsN hb, .nil⟩
  obtain ⟨t, h1, h2⟩ := body f cdv A outer s H vs Q E hr h
  exact ⟨t, h1.nox, h2⟩
theorem hu65_of {A : Around} {k : Nat} (hr : Room k A) : A.units + 65 < cLine := by
  have := hr.un
  omega
end
/-! ### the rules with the written part named, so that they can stand in a comprehension's block -/
section
variable {X : Cx} {te to ti ta tl th : TE}
def rTupS (K : PySem.W.Frag) : List V → Hp → VK → Prop := fun xs H Q => ∃ p ys, xs = [.ref p] ∧ ((SqL K H p ys ∧ ∀ l, H l = none → Q (.ref l) (upd H l (.tup ys))) ∨ (SqT K H p ys ∧ Q (.ref p) H))
theorem ixL (K : PySem.W.Frag) (h : X.K = K := by rfl) : IxR X (rIxL K) := by subst h; exact ix_list
theorem ixT (K : PySem.W.Frag) (h : X.K = K := by rfl) : IxR X (rIxT K) := by subst h; exact ix_tup
theorem inS (K : PySem.W.Frag) (h : X.K = K := by rfl) : OpR X (compareOp .In) (rIn K false) := by subst h; exact op_in_seq
theorem niS (K : PySem.W.Frag) (h : X.K = K := by rfl) : OpR X (compareOp .NotIn) (rIn K true) := by subst h; exact op_notIn_seq
theorem inTu (K : PySem.W.Frag) (hu : X.A.units + 65 < cLine) (h : X.K = K := by rfl) : OpR X (compareOp .In) (rInT K false) := by subst h; exact op_inTu hu
theorem niTu (K : PySem.W.Frag) (hu : X.A.units + 65 < cLine) (h : X.K = K := by rfl) : OpR X (compareOp .NotIn) (rInT K true) := by subst h; exact op_niTu hu
theorem eqD (K : PySem.W.Frag) (hu : X.A.units + 65 < cLine) (h : X.K = K := by rfl) : OpR X (compareOp .Eq) (rEqD K) := by subst h; exact op_eqD (by omega)
theorem neD (K : PySem.W.Frag) (hu : X.A.units + 65 < cLine) (h : X.K = K := by rfl) : OpR X (compareOp .NotEq) (rNeD K) := by subst h; exact op_neD (by omega)
theorem catA (K : PySem.W.Frag) (h : X.K = K := by rfl) : OpR X (binaryOp .Add) (rCatA K) := by subst h; exact op_catA
theorem lenS (K : PySem.W.Frag) (h : X.K = K := by rfl) : CallR X (.builtin "len") (rLenS K) := by subst h; exact call_len_seq
theorem lstS (K : PySem.W.Frag) (h : X.K = K := by rfl) : CallR X (.type "list") (rListS K) := by subst h; exact call_list_of
theorem tupS (K : PySem.W.Frag) (h : X.K = K := by rfl) : CallR X (.type "tuple") (rTupS K) := by subst h; exact call_tuple_of
theorem allS (K : PySem.W.Frag) (hc : X.calm = true := by rfl) (h : X.K = K := by rfl) : CallR X (.builtin "all") (rAll K) := by subst h; exact cr_all hc
theorem srtI (K : PySem.W.Frag) (h : X.K = K := by rfl) : CallR X (.builtin "sorted") (rSortedI K) := by subst h; exact cr_sortedI
theorem srtP (K : PySem.W.Frag) (h : X.K = K := by rfl) : CallR X (.builtin "sorted") (rSortedPO K) := by subst h; exact cr_sortedPO
theorem isiS (K : PySem.W.Frag) (h : X.K = K := by rfl) : CallR X (.builtin "isinstance") (rIsi K) := by subst h; exact call_isi
theorem minP (K : PySem.W.Frag) (hu : X.A.units + 65 < cLine) (hc : X.calm = true := by rfl) (h : X.K = K := by rfl) : CallR X (.builtin "min") (rMinP K) := by subst h; exact cr_minP hc hu
theorem maxP (K : PySem.W.Frag) (hu : X.A.units + 65 < cLine) (hc : X.calm = true := by rfl) (h : X.K = K := by rfl) : CallR X (.builtin "max") (rMaxP K) := by subst h; exact cr_maxP hc hu
theorem slL (K : PySem.W.Frag) (h : X.K = K := by rfl) : SlR X (rSlL K) := by subst h; exact sl_list
theorem slT (K : PySem.W.Frag) (h : X.K = K := by rfl) : SlR X (rSlA K) := by subst h; exact sl_tupA
theorem idxS (K : PySem.W.Frag) (h : X.K = K := by rfl) : MtR X "list.index" (rIndex K) := by subst h; exact mt_index
theorem piL {tg l : Expr} {tl : TE} (K : PySem.W.Frag) (hl : PE X l tl) (h : X.K = K := by rfl) : PI X tg l (iList K tl) := by subst h; exact pi_list hl
theorem piT {tg l : Expr} {tl : TE} (K : PySem.W.Frag) (hl : PE X l tl) (h : X.K = K := by rfl) : PI X tg l (iTup K tl) := by subst h; exact pi_tup hl
theorem pgT {es : List Expr} {k : Nat} {t : TGs} {n : Nat} {pos : Pos} (K : PySem.W.Frag) (h : PGs X es t) (hc : X.calm = true := by rfl)
    (hn : (assignEach es X.env).length = n := by rfl) (hst : (assignEach es X.env).findIdx? (·.1) = none := by rfl) (hK : X.K = K := by rfl) : PG X (.Tuple es k pos) (gTup K n t) := by
  subst hK
  exact pg_tup hc h hn hst
theorem bmS {o e : Expr} {es : List Expr} {name : PySem.Str} {id : String} {apos cpos : Pos} {T : String} {r : V → List V → Hp → VK → Prop} {t : TA} (K : PySem.W.Frag) (pa : PlainAttrs T) (slot : Slot T name id) (hty : typeOf (.builtin id) = pure (.type "method_descriptor")) (hm : MtR X id r) (ho : PE X o to) (ha : PA X (e :: es) t)
    (hbase : attributeBase o name X.env (eval o X.env) = eval o X.env := by rfl)
    (hfew : ((backTo cpos (starEach (e :: es) X.env)).all (fun x => !x.1) && (backToKw cpos (keywordEach [] X.env)).all (fun x => x.1.isSome)
      && decide ((e :: es).length + ([] : List Keyword).length + (if ([] : List Keyword).isEmpty then 0 else 1) < 30)) = true := by rfl)
    (hline : (apos.endLine == cpos.line) = true := by rfl) (hs : starEach (e :: es) X.env = (false, eval e X.env) :: starEach es X.env := by rfl) (hplain : (backTo cpos (starEach es X.env)).any (·.1) = false := by rfl) (hK : X.K = K := by rfl) :
    PE X (.Call (.Attribute o name apos) (e :: es) [] cpos) (tBM K T r to t) := by
  subst hK
  exact pe_bm pa slot hty hm ho ha hbase hfew hline hs hplain
end
end Tr
namespace Tr
open PySem PySem.Spec PyProof.Rows L2 Evl StX
open C8 (Cal pe_c pe_gc)
section
variable {K : PySem.W.Frag} {H H' H1 : Hp} {v : V} {d : PyData} {σ : L2.St}
/-! ### data in an extended heap -/
mutual
theorem dp_ex (e : Ex H H') : ∀ {v : V} {d : PyData}, Dp K H v d → Dp K H' v d
  | _, _, .non => .non
  | _, _, .bl b => .bl b
  | _, _, .int i => .int i
  | _, _, .str x => .str x
  | _, _, .lst h a => .lst (ex_l e h) (dpa_ex e a)
  | _, _, .tup h a => .tup (ex_t e h) (dpa_ex e a)
theorem dpa_ex (e : Ex H H') : ∀ {vs : List V} {ds : List PyData}, DpAll K H vs ds → DpAll K H' vs ds
  | _, _, .nil => .nil
  | _, _, .cons a b => .cons (dp_ex e a) (dpa_ex e b)
end
/-- what never changes: tuples, locked things -/
def imm : HO → Bool
  | .tup _ => true
  | .frz _ _ => true
  | _ => false
def Tx (H H' : Hp) : Prop := ∀ a o, H a = some o → imm o = true → H' a = some o
theorem Tx.refl (H : Hp) : Tx H H := fun _ _ h _ => h
theorem Tx.trans {H2 : Hp} (a : Tx H H1) (b : Tx H1 H2) : Tx H H2 := fun x o h i => b x o (a x o h i) i
theorem Tx.of (e : Ex H H') : Tx H H' := fun a o h _ => e a o h
theorem Tx.upd {p : Addr} {o u : HO} (h : H p = some u) (hu : imm u = false) : Tx H (upd H p o) := fun a x e i => by
  by_cases hp : a = p
  · subst hp
    rw [h] at e
    cases e
    rw [hu] at i
    cases i
  · rw [upd_ne hp]
    exact e
theorem Tx.new {p : Addr} {o : HO} (h : H p = none) : Tx H (L2.upd H p o) := Tx.of (Ex.new h)
theorem tx_t (e : Tx H H') {a : Addr} {xs : List V} (h : SqT K H a xs) : SqT K H' a xs := by
  rcases h with (h | ⟨o, h⟩) | h
  · exact .inl (.inl (e _ _ h rfl))
  · exact .inl (.inr ⟨o, e _ _ h rfl⟩)
  · exact .inr h
mutual
def noL : PyData → Bool
  | .list _ => false
  | .dict _ => false
  | .tuple xs => noLs xs
  | .none => true
  | .bool _ => true
  | .int _ => true
  | .str _ => true
def noLs : List PyData → Bool
  | [] => true
  | x :: xs => noL x && noLs xs
end
mutual
theorem dp_tx (e : Tx H H') : ∀ {v : V} {d : PyData}, noL d = true → Dp K H v d → Dp K H' v d
  | _, _, _, .non => .non
  | _, _, _, .bl b => .bl b
  | _, _, _, .int i => .int i
  | _, _, _, .str x => .str x
  | _, _, n, .lst h a => by simp [noL] at n
  | _, _, n, .tup h a => .tup (tx_t e h) (dpa_tx e (by simpa [noL] using n) a)
theorem dpa_tx (e : Tx H H') : ∀ {vs : List V} {ds : List PyData}, noLs ds = true → DpAll K H vs ds → DpAll K H' vs ds
  | _, _, _, .nil => .nil
  | _, _, n, .cons a b => by
    have n2 := Bool.and_eq_true_iff.mp (show (_ && _) = true by simpa [noLs] using n)
    exact .cons (dp_tx e n2.1 a) (dpa_tx e n2.2 b)
end
/-! ### reading data back -/
theorem dp_int {i : Int} (h : Dp K H v (.int i)) : v = .int i := by cases h; rfl
theorem dp_bl {b : Bool} (h : Dp K H v (.bool b)) : v = .bl b := by cases h; rfl
theorem dp_tup {ds : List PyData} (h : Dp K H v (.tuple ds)) : ∃ a xs, v = .ref a ∧ SqT K H a xs ∧ DpAll K H xs ds := by
  cases h with
  | tup h a => exact ⟨_, _, rfl, h, a⟩
theorem dp_lst {ds : List PyData} (h : Dp K H v (.list ds)) : ∃ a xs, v = .ref a ∧ SqL K H a xs ∧ DpAll K H xs ds := by
  cases h with
  | lst h a => exact ⟨_, _, rfl, h, a⟩
theorem dpa_len : ∀ {vs : List V} {ds : List PyData}, DpAll K H vs ds → vs.length = ds.length
  | _, _, .nil => rfl
  | _, _, .cons _ b => by rw [List.length_cons, List.length_cons, dpa_len b]
theorem dpa_get : ∀ {vs : List V} {ds : List PyData} {i : Nat} {x : V}, DpAll K H vs ds → vs[i]? = some x → ∃ d, ds[i]? = some d ∧ Dp K H x d
  | _, _, i, x, .nil, h => by simp at h
  | _, _, 0, x, .cons a b, h => by
    simp at h
    subst h
    exact ⟨_, rfl, a⟩
  | _, _, i + 1, x, .cons a b, h => by
    have ⟨d, h1, h2⟩ := dpa_get b (i := i) (x := x) (by simpa using h)
    exact ⟨d, by simpa using h1, h2⟩
theorem dpa_at : ∀ {vs : List V} {ds : List PyData} {i : Nat} {d : PyData}, DpAll K H vs ds → ds[i]? = some d → ∃ x, vs[i]? = some x ∧ Dp K H x d
  | _, _, i, x, .nil, h => by simp at h
  | _, _, 0, x, .cons a b, h => by
    simp at h
    subst h
    exact ⟨_, rfl, a⟩
  | _, _, i + 1, x, .cons a b, h => by
    have ⟨y, h1, h2⟩ := dpa_at b (i := i) (d := x) (by simpa using h)
    exact ⟨y, by simpa using h1, h2⟩
theorem dpa_app : ∀ {vs ws : List V} {ds es : List PyData}, DpAll K H vs ds → DpAll K H ws es → DpAll K H (vs ++ ws) (ds ++ es)
  | _, _, _, _, .nil, h => h
  | _, _, _, _, .cons a b, h => .cons a (dpa_app b h)
theorem dpa_ints : ∀ (ks : List Int), DpAll K H (ks.map V.int) (ks.map PyData.int)
  | [] => .nil
  | k :: ks => .cons (.int k) (dpa_ints ks)
theorem dpa_ints_inv : ∀ {ks : List Int} {vs : List V}, DpAll K H vs (ks.map PyData.int) → vs = ks.map V.int
  | [], _, h => by cases h; rfl
  | k :: ks, _, h => by
    cases h with
    | cons a b => rw [dp_int a, dpa_ints_inv b]; rfl
theorem dp_ints_t {a : Addr} {ks : List Int} (h : SqT K H a (ks.map V.int)) : Dp K H (.ref a) (.tuple (ks.map PyData.int)) := .tup h (dpa_ints ks)
theorem dp_ints_l {a : Addr} {ks : List Int} (h : SqL K H a (ks.map V.int)) : Dp K H (.ref a) (.list (ks.map PyData.int)) := .lst h (dpa_ints ks)
theorem dp_ints_ti {ks : List Int} (h : Dp K H v (.tuple (ks.map PyData.int))) : ∃ a, v = .ref a ∧ SqT K H a (ks.map V.int) := by
  obtain ⟨a, xs, e, h1, h2⟩ := dp_tup h
  rw [dpa_ints_inv h2] at h1
  exact ⟨a, e, h1⟩
/-! ### pairs, graphs -/
def pD (p : Int × Int) : PyData := .tuple [.int p.1, .int p.2]
def grD (n : Int) (es : List (Int × Int)) : PyData := .tuple [.int n, .tuple (es.map pD)]
theorem dp_pair {p : Int × Int} (h : Dp K H v (pD p)) : ∃ t, v = .ref t ∧ SqT K H t [.int p.1, .int p.2] := by
  obtain ⟨a, xs, e, h1, h2⟩ := dp_tup h
  cases h2 with
  | cons a1 b1 =>
    cases b1 with
    | cons a2 b2 =>
      cases b2
      rw [dp_int a1, dp_int a2] at h1
      exact ⟨a, e, h1⟩
theorem mk_pair {t : Addr} {i j : Int} (h : SqT K H t [.int i, .int j]) : Dp K H (.ref t) (pD (i, j)) := .tup h (.cons (.int _) (.cons (.int _) .nil))
structure Gr (K : PySem.W.Frag) (H : Hp) (v : V) (n : Int) (es : List (Int × Int)) : Prop where
  d : Dp K H v (grD n es)
theorem Gr.open_ {n : Int} {es : List (Int × Int)} (h : Gr K H v n es) : ∃ a e rs, v = .ref a ∧ SqT K H a [.int n, .ref e] ∧ SqT K H e rs ∧ DpAll K H rs (es.map pD) := by
  obtain ⟨a, xs, ea, h1, h2⟩ := dp_tup h.d
  cases h2 with
  | cons a1 b1 =>
    cases b1 with
    | cons a2 b2 =>
      cases b2
      obtain ⟨e, rs, ee, h3, h4⟩ := dp_tup a2
      rw [dp_int a1, ee] at h1
      exact ⟨a, e, rs, ea, h1, h3, h4⟩
theorem noLs_pairs : ∀ es : List (Int × Int), noLs (es.map pD) = true
  | [] => by simp [noLs]
  | p :: es => by simp [noLs, noL, pD, noLs_pairs es]
theorem noLs_ints : ∀ ks : List Int, noLs (ks.map PyData.int) = true
  | [] => by simp [noLs]
  | p :: es => by simp [noLs, noL, noLs_ints es]
theorem noL_gr (n : Int) (es : List (Int × Int)) : noL (grD n es) = true := by simp [grD, noL, noLs, noLs_pairs]
theorem noL_pair (p : Int × Int) : noL (pD p) = true := by simp [pD, noL, noLs]
theorem Gr.ex {n : Int} {es : List (Int × Int)} (h : Gr K H v n es) (e : Ex H H') : Gr K H' v n es := ⟨dp_ex e h.d⟩
theorem Gr.tx {n : Int} {es : List (Int × Int)} (h : Gr K H v n es) (e : Tx H H') : Gr K H' v n es := ⟨dp_tx e (noL_gr n es) h.d⟩
/-! shapes, equality -/
theorem lay_pairs : ∀ es : List (Int × Int), PyData.canLayAll0 (es.map pD) = true
  | [] => by simp [PyData.canLayAll0]
  | p :: es => by simp [PyData.canLayAll0, PyData.canLay0, pD, lay_pairs es]
theorem lay_ints : ∀ es : List Int, PyData.canLayAll0 (es.map PyData.int) = true
  | [] => by simp [PyData.canLayAll0]
  | p :: es => by simp [PyData.canLayAll0, PyData.canLay0, lay_ints es]
theorem depth_ints : ∀ es : List Int, PyData.depthAll (es.map PyData.int) = 0
  | [] => by simp [PyData.depthAll]
  | p :: es => by simp [PyData.depthAll, PyData.depth, depth_ints es]
theorem depth_pairs : ∀ es : List (Int × Int), PyData.depthAll (es.map pD) ≤ 1
  | [] => by simp [PyData.depthAll]
  | p :: es => by
    have := depth_pairs es
    simp only [List.map_cons, PyData.depthAll, pD, PyData.depth]
    omega
theorem shaped_of {d : PyData} (h1 : d.canLay0 = true) (h2 : d.depth ≤ 64) : SeqAt.shaped d = true := by
  show (d.canLay0 && decide (d.depth ≤ 64)) = true
  rw [h1, decide_eq_true h2]
  rfl
theorem sh_pair (p : Int × Int) : SeqAt.shaped (pD p) = true := shaped_of (by simp [pD, PyData.canLay0, PyData.canLayAll0]) (by simp [pD, PyData.depth, PyData.depthAll])
theorem sh_pairsT (es : List (Int × Int)) : SeqAt.shaped (.tuple (es.map pD)) = true := shaped_of (by simp [PyData.canLay0, lay_pairs]) (by have := depth_pairs es; simp only [PyData.depth]; omega)
theorem sh_pairsL (es : List (Int × Int)) : SeqAt.shaped (.list (es.map pD)) = true := shaped_of (by simp [PyData.canLay0, lay_pairs]) (by have := depth_pairs es; simp only [PyData.depth]; omega)
theorem sh_intsT (es : List Int) : SeqAt.shaped (.tuple (es.map PyData.int)) = true := shaped_of (by simp [PyData.canLay0, lay_ints]) (by simp [PyData.depth, depth_ints])
theorem sh_intsL (es : List Int) : SeqAt.shaped (.list (es.map PyData.int)) = true := shaped_of (by simp [PyData.canLay0, lay_ints]) (by simp [PyData.depth, depth_ints])
theorem eqv_pair (p q : Int × Int) : PyData.eqv (pD p) (pD q) = decide (p = q) := by
  obtain ⟨a, b⟩ := p
  obtain ⟨c, e⟩ := q
  have h : PyData.eqv (pD (a, b)) (pD (c, e)) = ((a == c) && ((b == e) && true)) := by simp only [pD, PyData.eqv, PyData.eqvAll]
  rw [h]
  by_cases h1 : a = c <;> by_cases h2 : b = e <;> simp [h1, h2]
theorem any_pair (p : Int × Int) : ∀ es : List (Int × Int), ((es.map pD).any fun z => PyData.eqv z (pD p)) = decide (p ∈ es)
  | [] => by simp
  | q :: es => by
    rw [List.map_cons, List.any_cons, any_pair p es, eqv_pair]
    by_cases h1 : q = p
    · subst h1
      simp
    · have h2 : ¬ p = q := fun z => h1 z.symm
      simp [h1, h2]
theorem eqv_ints : ∀ ks js : List Int, PyData.eqvAll (ks.map PyData.int) (js.map PyData.int) = decide (ks = js)
  | [], [] => by simp [PyData.eqvAll]
  | [], _ :: _ => by simp [PyData.eqvAll]
  | _ :: _, [] => by simp [PyData.eqvAll]
  | a :: r, b :: t => by
    simp only [List.map_cons, PyData.eqvAll, PyData.eqv, eqv_ints r t]
    by_cases h1 : a = b <;> by_cases h2 : r = t <;> simp [h1, h2]
/-! ints: in a list or tuple of ints -/
theorem flat_ints : ∀ ks : List Int, (ks.map V.int).all flatV = true
  | [] => rfl
  | k :: ks => by
    rw [List.map_cons, List.all_cons, flat_ints ks]
    rfl
theorem inV_ints (k : Int) : ∀ ks : List Int, inV (.int k) (ks.map V.int) = decide (k ∈ ks)
  | [] => by simp [inV]
  | j :: ks => by
    have ih := inV_ints k ks
    unfold inV at ih ⊢
    rw [List.map_cons, List.any_cons, ih]
    have e : eqV (.int j) (.int k) = decide (j = k) := by
      show (j == k) = decide (j = k)
      exact (Bool.beq_eq_decide_eq j k)
    rw [e]
    by_cases h1 : j = k
    · subst h1
      simp
    · have h2 : ¬ k = j := fun z => h1 z.symm
      simp [h1, h2]
/-! ### the vertex pair, joined or not -/
def mn (u v : Int) : Int := if v < u then v else u
def mx (u v : Int) : Int := if v > u then v else u
def adjB (es : List (Int × Int)) (u v : Int) : Bool := decide ((mn u v, mx u v) ∈ es)
def adj (es : List (Int × Int)) (u v : Int) : Prop := (mn u v, mx u v) ∈ es
theorem adjB_iff (es : List (Int × Int)) (u v : Int) : adjB es u v = true ↔ adj es u v := by simp [adjB, adj]
theorem mn_comm (u v : Int) : mn u v = mn v u := by unfold mn; split <;> split <;> omega
theorem mx_comm (u v : Int) : mx u v = mx v u := by unfold mx; split <;> split <;> omega
theorem adj_sym {es : List (Int × Int)} (u v : Int) (h : adj es u v) : adj es v u := by
  unfold adj at *
  rw [mn_comm, mx_comm]
  exact h
/-- a graph of the law's size -/
structure Ok (n : Int) (es : List (Int × Int)) : Prop where
  lo : 1 ≤ n
  hi : n ≤ 7
  len : es.length ≤ 100
  good : ∀ p ∈ es, 0 ≤ p.1 ∧ p.1 < p.2 ∧ p.2 < n
theorem Ok.irr {n : Int} {es : List (Int × Int)} (h : Ok n es) (u : Int) : ¬ adj es u u := fun z => by
  have := (h.good _ z).2.1
  unfold mn mx at this
  simp at this
theorem Ok.range {n : Int} {es : List (Int × Int)} (h : Ok n es) {u v : Int} (z : adj es u v) : 0 ≤ u ∧ u < n ∧ 0 ≤ v ∧ v < n := by
  have := h.good _ z
  unfold mn mx at this
  simp only at this
  split at this <;> split at this <;> omega
end
end Tr
namespace Tr
open PySem PySem.Spec PyProof.Rows L2 Evl StX
open C8 (Cal pe_c pe_gc)
section
variable {K : PySem.W.Frag} {H H' H1 : Hp} {σ : L2.St} {te ta tb tl : TE} {t u : TT} {g : TG} {vs : List Nat} {al : Type}
/-! ### evaluates to such data; to a new list of such data -/
def EvD (K : PySem.W.Frag) (te : TE) (σ : L2.St) (H : Hp) (d : PyData) : Prop := ∀ H1, Ex H H1 → ∀ Q : VK, (∀ v H2, Ex H1 H2 → Dp K H2 v d → Q v H2) → te σ H1 Q
def EvN (K : PySem.W.Frag) (te : TE) (σ : L2.St) (H : Hp) (ds : List PyData) : Prop := ∀ H1, Ex H H1 → ∀ Q : VK, (∀ p xs H2, H1 p = none → Ex H1 H2 → H2 p = some (.lst xs) → DpAll K H2 xs ds → Q (.ref p) H2) → te σ H1 Q
theorem EvD.mono {d : PyData} (e : Ex H H') (h : EvD K te σ H d) : EvD K te σ H' d := fun H1 a Q q => h H1 (e.trans a) Q q
theorem EvN.mono {ds : List PyData} (e : Ex H H') (h : EvN K te σ H ds) : EvN K te σ H' ds := fun H1 a Q q => h H1 (e.trans a) Q q
theorem EvN.d {ds : List PyData} (h : EvN K te σ H ds) : EvD K te σ H (.list ds) := fun H1 e Q q => h H1 e Q fun p xs H2 _ e2 hp ha => q _ H2 e2 (.lst (sq_of hp) ha)
theorem evd_v {v : V} {d : PyData} (h : Ev te σ H v) (hd : Dp K H v d) : EvD K te σ H d := fun H1 e Q q => h H1 e Q fun H2 e2 => q v H2 e2 (dp_ex (e.trans e2) hd)
theorem evd_int {i : Int} (h : Ev te σ H (.int i)) : EvD K te σ H (.int i) := evd_v h (.int i)
theorem evd_bl {b : Bool} (h : Ev te σ H (.bl b)) : EvD K te σ H (.bool b) := evd_v h (.bl b)
theorem EvN.ints {ks : List Int} (h : EvN K te σ H (ks.map PyData.int)) : EvL te σ H (ks.map V.int) := fun H1 e Q q => h H1 e Q fun p xs H2 hp e2 h2 ha => by
  rw [dpa_ints_inv ha] at h2
  exact q p H2 hp e2 h2
theorem evn_ints {ks : List Int} (h : EvL te σ H (ks.map V.int)) : EvN K te σ H (ks.map PyData.int) := fun H1 e Q q => h H1 e Q fun p H2 hp e2 h2 => q p _ H2 hp e2 h2 (dpa_ints ks)
theorem dpa_bls_inv : ∀ {ks : List Bool} {vs : List V}, DpAll K H vs (ks.map PyData.bool) → vs = ks.map V.bl
  | [], _, h => by cases h; rfl
  | k :: ks, _, h => by
    cases h with
    | cons a b => rw [dp_bl a, dpa_bls_inv b]; rfl
/-! ### comprehensions -/
def CwA (K : PySem.W.Frag) (H : Hp) (as : List al) (f : al → Bool) (r : al → PyData) (D : Addr) (i : Nat) (H' : Hp) : Prop :=
  H D = none ∧ Ex H H' ∧ ∃ acc, H' D = some (.lst acc) ∧ DpAll K H' acc (((as.take i).filter f).map r)
theorem cwA_turn {as : List al} {f : al → Bool} {r : al → PyData} {D : Addr} {i : Nat} {σ2 : L2.St} {a : al} (hr : ∀ a, noL (r a) = true) (hz : as.length ≤ 40000) (p : CwA K H as f r D i H') (hi : as[i]? = some a) (ht : EvT t σ2 H' (f a)) (he : f a = true → EvD K te σ2 H' (r a)) :
    t σ2 H' fun b H3 => if b = true then te σ2 H3 fun y H4 => ∃ acc, H4 D = some (.lst acc) ∧ acc.length < sizeLine ∧ CwA K H as f r D (i + 1) (upd H4 D (.lst (acc ++ [y]))) else CwA K H as f r D (i + 1) H3 := by
  obtain ⟨p1, p2, acc, p3, p4⟩ := p
  have tk : as.take (i + 1) = as.take i ++ [a] := by rw [List.take_add_one, hi]; rfl
  have hn : ∀ l : List al, noLs (l.map r) = true := fun l => by
    induction l with
    | nil => rfl
    | cons x l ih =>
      show (noL (r x) && noLs (l.map r)) = true
      rw [hr, ih]
      rfl
  refine ht H' (Ex.refl H') _ fun H3 e3 => ?_
  cases hf : f a with
  | true =>
    show te σ2 H3 fun y H4 => ∃ acc, H4 D = some (.lst acc) ∧ acc.length < sizeLine ∧ CwA K H as f r D (i + 1) (upd H4 D (.lst (acc ++ [y])))
    refine he hf H3 e3 _ fun y H4 e4 hy => ?_
    have h4 : H4 D = some (.lst acc) := e4 D _ (e3 D _ p3)
    have hl := dpa_len p4
    have hl2 : (((as.take i).filter f).map r).length ≤ as.length := by
      rw [List.length_map]
      refine Nat.le_trans (List.length_filter_le _ _) ?_
      rw [List.length_take]
      exact Nat.min_le_right _ _
    refine ⟨acc, h4, sz_lt (by omega), p1, Ex.mut ((p2.trans e3).trans e4) p1, acc ++ [y], upd_same, ?_⟩
    have tx : Tx H4 (upd H4 D (.lst (acc ++ [y]))) := Tx.upd h4 rfl
    rw [tk, List.filter_append, List.map_append, List.filter_cons, if_pos hf]
    exact dpa_app (dpa_tx tx (hn _) (dpa_ex (e3.trans e4) p4)) (.cons (dp_tx tx (hr a) hy) .nil)
  | false =>
    show CwA K H as f r D (i + 1) H3
    refine ⟨p1, p2.trans e3, acc, e3 D _ p3, ?_⟩
    rw [tk, List.filter_append, List.filter_cons, if_neg (by rw [hf]; decide)]
    show DpAll K H3 acc (List.map r (_ ++ []))
    rw [List.append_nil]
    exact dpa_ex e3 p4
theorem cwA_ends {as : List al} {f : al → Bool} {r : al → PyData} {D : Addr} (p : CwA K H as f r D as.length H') : ∃ acc, H' D = some (.lst acc) ∧ DpAll K H' acc ((as.filter f).map r) := by
  obtain ⟨_, _, acc, h1, h2⟩ := p
  rw [List.take_length] at h2
  exact ⟨acc, h1, h2⟩
theorem cwA_start {as : List al} {f : al → Bool} {r : al → PyData} {D : Addr} (hD : H D = none) : CwA K H as f r D 0 (upd H D (.lst [])) := ⟨hD, Ex.new hD, [], upd_same, .nil⟩
variable {enc : al → PyData} {as : List al} {f : al → Bool} {r : al → PyData} {τ : al → V → L2.St}
theorem enc_at (h : DpAll K H vs' (as.map enc)) {i : Nat} {x : V} (hx : vs'[i]? = some x) : ∃ a, as[i]? = some a ∧ Dp K H x (enc a) := by
  obtain ⟨d, h1, h2⟩ := dpa_get h hx
  rw [List.getElem?_map] at h1
  cases e : as[i]? with
  | none =>
    rw [e] at h1
    cases h1
  | some a =>
    rw [e] at h1
    cases h1
    exact ⟨a, rfl, h2⟩
/-- over a tuple of data -/
theorem en_T (hs : EvD K tl σ H (.tuple (as.map enc))) (hz : as.length ≤ 40000) (hr : ∀ a, noL (r a) = true)
    (hg : ∀ a x H1 (R : L2.St → Hp → Prop), Dp K H1 x (enc a) → R (τ a x) H1 → g x (wipe σ vs) H1 R) (hw : ∀ a x H1, Dp K H1 x (enc a) → wipe (τ a x) vs = wipe σ vs)
    (ht : ∀ a x H1, a ∈ as → Ex H H1 → Dp K H1 x (enc a) → EvT t (τ a x) H1 (f a)) (he : ∀ a x H1, a ∈ as → Ex H H1 → Dp K H1 x (enc a) → f a = true → EvD K te (τ a x) H1 (r a)) :
    EvN K (tLc (iTup K tl) g t te vs) σ H ((as.filter f).map r) := fun H0 e Q q => hs H0 e _ fun v H1 e1 hv => by
  obtain ⟨p, xs, ev, hp, hxs⟩ := dp_tup hv
  subst ev
  have hl : xs.length = as.length := by
    have := dpa_len hxs
    rwa [List.length_map] at this
  refine ⟨p, rfl, ⟨xs, hp⟩, fun D hD => lc_tup (xs := xs) (CwA K H1 as f r D) (cwA_start hD) (fun i H' _ c => ex_t c.2.1 hp) (fun i x H' hi c => ?_) fun H' c => ?_⟩
  · obtain ⟨a, ha, hd⟩ := enc_at hxs hi
    have hd' := dp_ex c.2.1 hd
    have hm : a ∈ as := List.mem_of_getElem? ha
    exact hg a x H' _ hd' ⟨hw a x H' hd', cwA_turn hr hz c ha (ht a x H' hm ((e.trans e1).trans c.2.1) hd') (he a x H' hm ((e.trans e1).trans c.2.1) hd')⟩
  · rw [hl] at c
    obtain ⟨acc, h1, h2⟩ := cwA_ends c
    exact q D acc H' (fresh_back e1 c.1) (e1.trans c.2.1) h1 h2
/-- over a list of data -/
theorem en_L (hs : EvD K tl σ H (.list (as.map enc))) (hz : as.length ≤ 40000) (hr : ∀ a, noL (r a) = true)
    (hg : ∀ a x H1 (R : L2.St → Hp → Prop), Dp K H1 x (enc a) → R (τ a x) H1 → g x (wipe σ vs) H1 R) (hw : ∀ a x H1, Dp K H1 x (enc a) → wipe (τ a x) vs = wipe σ vs)
    (ht : ∀ a x H1, a ∈ as → Ex H H1 → Dp K H1 x (enc a) → EvT t (τ a x) H1 (f a)) (he : ∀ a x H1, a ∈ as → Ex H H1 → Dp K H1 x (enc a) → f a = true → EvD K te (τ a x) H1 (r a)) :
    EvN K (tLc (iList K tl) g t te vs) σ H ((as.filter f).map r) := fun H0 e Q q => hs H0 e _ fun v H1 e1 hv => by
  obtain ⟨p, xs, ev, hp, hxs⟩ := dp_lst hv
  subst ev
  have hl : xs.length = as.length := by
    have := dpa_len hxs
    rwa [List.length_map] at this
  refine ⟨p, rfl, ⟨xs, hp⟩, fun D hD => lc_list (xs := xs) (CwA K H1 as f r D) (cwA_start hD) (fun i H' _ c => ex_l c.2.1 hp) (fun i x H' hi c => ?_) fun H' c => ?_⟩
  · obtain ⟨a, ha, hd⟩ := enc_at hxs hi
    have hd' := dp_ex c.2.1 hd
    have hm : a ∈ as := List.mem_of_getElem? ha
    exact hg a x H' _ hd' ⟨hw a x H' hd', cwA_turn hr hz c ha (ht a x H' hm ((e.trans e1).trans c.2.1) hd') (he a x H' hm ((e.trans e1).trans c.2.1) hd')⟩
  · rw [hl] at c
    obtain ⟨acc, h1, h2⟩ := cwA_ends c
    exact q D acc H' (fresh_back e1 c.1) (e1.trans c.2.1) h1 h2
end
/-- lo, lo + 1, .. -/
def rgI (lo : Int) (n : Nat) : List Int := (List.range n).map fun (i : Nat) => lo + (i : Int)
theorem rgI_len (lo : Int) (n : Nat) : (rgI lo n).length = n := by simp [rgI]
theorem rgI_at {lo : Int} {n i : Nat} (h : i < n) : (rgI lo n)[i]? = some (lo + (i : Int)) := by
  unfold rgI
  rw [List.getElem?_map, List.getElem?_range h]
  rfl
theorem mem_rgI {lo k : Int} {n : Nat} : k ∈ rgI lo n ↔ lo ≤ k ∧ k < lo + n := by
  unfold rgI
  simp only [List.mem_map, List.mem_range]
  constructor
  · rintro ⟨i, hi, rfl⟩
    omega
  · intro ⟨h1, h2⟩
    exact ⟨(k - lo).toNat, by omega, by omega⟩
section
variable {K : PySem.W.Frag} {H H' H1 : Hp} {σ : L2.St} {te : TE} {t : TT} {g : TG} {vs : List Nat} {ta : TA} {f : Int → Bool} {r : Int → PyData} {τ : Int → L2.St}
/-- over range(n) -/
theorem en_R1 {n : Int} (hs : EvA ta σ H [.int n]) (hz : n ≤ 40000) (hr : ∀ a, noL (r a) = true) (hg : ∀ a H1 (R : L2.St → Hp → Prop), R (τ a) H1 → g (.int a) (wipe σ vs) H1 R) (hw : ∀ a, wipe (τ a) vs = wipe σ vs)
    (hn : -40000 ≤ n) (ht : ∀ a H1, 0 ≤ a → a < n → Ex H H1 → EvT t (τ a) H1 (f a)) (he : ∀ a H1, 0 ≤ a → a < n → Ex H H1 → f a = true → EvD K te (τ a) H1 (r a)) :
    EvN K (tLc (iRng1 ta) g t te vs) σ H (((rgI 0 n.toNat).filter f).map r) := fun H0 e Q q => hs H0 e _ fun H1 e1 => by
  refine ⟨n, rfl, by omega, by omega, fun D hD => lc_range (lo := 0) (n := n.toNat) (CwA K H1 (rgI 0 n.toNat) f r D) (cwA_start hD) (fun i H' hi c => ?_) fun H' c => ?_⟩
  · have ha : (rgI 0 n.toNat)[i]? = some (0 + (i : Int)) := rgI_at hi
    exact hg _ H' _ ⟨hw _, cwA_turn hr (by rw [rgI_len]; omega) c ha (ht _ H' (by omega) (by omega) ((e.trans e1).trans c.2.1)) (he _ H' (by omega) (by omega) ((e.trans e1).trans c.2.1))⟩
  · have c2 : CwA K H1 (rgI 0 n.toNat) f r D (rgI 0 n.toNat).length H' := by
      rw [rgI_len]
      exact c
    obtain ⟨acc, h1, h2⟩ := cwA_ends c2
    exact q D acc H' (fresh_back e1 c.1) (e1.trans c.2.1) h1 h2
/-- over range(lo, n) -/
theorem en_R2 {lo n : Int} (hs : EvA ta σ H [.int lo, .int n]) (hz : n - lo ≤ 40000) (hlo : -40000 ≤ lo ∧ lo ≤ 40000) (hn : -40000 ≤ n ∧ n ≤ 40000) (hr : ∀ a, noL (r a) = true) (hg : ∀ a H1 (R : L2.St → Hp → Prop), R (τ a) H1 → g (.int a) (wipe σ vs) H1 R) (hw : ∀ a, wipe (τ a) vs = wipe σ vs)
    (ht : ∀ a H1, lo ≤ a → a < n → Ex H H1 → EvT t (τ a) H1 (f a)) (he : ∀ a H1, lo ≤ a → a < n → Ex H H1 → f a = true → EvD K te (τ a) H1 (r a)) :
    EvN K (tLc (iRng2 ta) g t te vs) σ H (((rgI lo (n - lo).toNat).filter f).map r) := fun H0 e Q q => hs H0 e _ fun H1 e1 => by
  refine ⟨lo, n, rfl, ⟨by omega, by omega, by omega, by omega⟩, fun D hD => lc_range (lo := lo) (n := (n - lo).toNat) (CwA K H1 (rgI lo (n - lo).toNat) f r D) (cwA_start hD) (fun i H' hi c => ?_) fun H' c => ?_⟩
  · have ha : (rgI lo (n - lo).toNat)[i]? = some (lo + (i : Int)) := rgI_at hi
    exact hg _ H' _ ⟨hw _, cwA_turn hr (by rw [rgI_len]; omega) c ha (ht _ H' (by omega) (by omega) ((e.trans e1).trans c.2.1)) (he _ H' (by omega) (by omega) ((e.trans e1).trans c.2.1))⟩
  · have c2 : CwA K H1 (rgI lo (n - lo).toNat) f r D (rgI lo (n - lo).toNat).length H' := by
      rw [rgI_len]
      exact c
    obtain ⟨acc, h1, h2⟩ := cwA_ends c2
    exact q D acc H' (fresh_back e1 c.1) (e1.trans c.2.1) h1 h2
theorem et_yes : EvT tYes σ H true := fun H1 _ _ q => q H1 (Ex.refl H1)
end
/-! ### promises of defs that change nothing -/
/-- the promise: with these arguments (A, which tells what then holds) -/
def pu (A : List V → Hp → (V → Hp → Prop) → Prop) : Sp := fun vs H Q _ => ∃ post, A vs H post ∧ ∀ v H', Ex H H' → post v H' → Q v H'
theorem pu_go {A : List V → Hp → (V → Hp → Prop) → Prop} {vs : List V} {H : Hp} {Q : VK} {E : XK} {post : V → Hp → Prop} (h : A vs H post) (k : ∀ v H', Ex H H' → post v H' → Q v H') : pu A vs H Q E := ⟨post, h, k⟩
/-- .. whose value is known -/
theorem sv_pu {A : List V → Hp → (V → Hp → Prop) → Prop} {vs : List V} {H : Hp} {z : V} (h : ∀ H1, Ex H H1 → ∃ post, A vs H1 post ∧ ∀ v H', post v H' → v = z) : SpV (pu A) vs H z := fun H1 e Q q E => by
  obtain ⟨post, h1, h2⟩ := h H1 e
  exact ⟨post, h1, fun v H' e' hp => by rw [h2 v H' hp]; exact q H' e'⟩
end Tr
namespace Tr
open PySem PySem.Spec PyProof.Rows L2 Evl StX
/-! ### what each def hands back -/
structure NbOk (es : List (Int × Int)) (u : Int) (L : List Int) : Prop where
  srt : L.Pairwise (· ≤ ·)
  mem : ∀ x, x ∈ L ↔ adj es u x
  len : L.length ≤ 100
/-- all members are joined -/
def clq (es : List (Int × Int)) (ks : List Int) : Bool := ks.all fun u => (ks.filter fun v => decide (u < v)).all fun v => adjB es u v
def nearL (n : Int) (es : List (Int × Int)) (v : Int) : List Int := (rgI 0 n.toNat).filter fun u => decide (u ≠ v) && adjB es u v
def rows2 (n : Int) : List (Int × Int) := (rgI 0 n.toNat).flatMap fun u => (rgI (u + 1) (n - (u + 1)).toNat).map fun v => (u, v)
def subs : List Int → List (List Int)
  | ks => ks.foldl (fun acc k => acc ++ acc.map fun one => one ++ [k]) [[]]
def NewL (H : Hp) (xs : List V) : V → Hp → Prop := fun x H' => ∃ p, x = .ref p ∧ H p = none ∧ H' p = some (.lst xs)
def NewD (K : PySem.W.Frag) (H : Hp) (ds : List PyData) : V → Hp → Prop := fun x H' => ∃ p xs, x = .ref p ∧ H p = none ∧ H' p = some (.lst xs) ∧ DpAll K H' xs ds
def Is (z : V) : V → Hp → Prop := fun x _ => x = z
def IsD (K : PySem.W.Frag) (d : PyData) : V → Hp → Prop := fun x H' => Dp K H' x d
def sp_is_integer (K : PySem.W.Frag) : Sp := pu fun vs H post => ∃ i, vs = [.int i] ∧ post = Is (.bl true)
def sp_law_is_int (K : PySem.W.Frag) : Sp := sp_is_integer K
def sp_is_integer_tuple (K : PySem.W.Frag) : Sp := pu fun vs H post => ∃ t, ∃ ks : List Int, vs = [.ref t] ∧ SqT K H t (ks.map V.int) ∧ ks.length ≤ 400 ∧ post = Is (.bl true)
def sp_pair_of (K : PySem.W.Frag) : Sp := pu fun vs H post => ∃ u v, vs = [.int u, .int v] ∧ post = IsD K (pD (mn u v, mx u v))
def sp_are_neighbours (K : PySem.W.Frag) : Sp := pu fun vs H post => ∃ g n es u v, vs = [g, .int u, .int v] ∧ Gr K H g n es ∧ post = Is (.bl (adjB es u v))
def sp_law_met (K : PySem.W.Frag) : Sp := sp_are_neighbours K
def sp_neighbours (K : PySem.W.Frag) : Sp := fun vs H Q _ => ∃ g n es u, vs = [g, .int u] ∧ Gr K H g n es ∧ Ok n es ∧ ∀ L p H', NbOk es u L → H p = none → Ex H H' → H' p = some (.lst (L.map V.int)) → Q (.ref p) H'
def sp_law_near (K : PySem.W.Frag) : Sp := pu fun vs H post => ∃ g n es v, vs = [g, .int v] ∧ Gr K H g n es ∧ Ok n es ∧ post = NewL H ((nearL n es v).map V.int)
def sp_is_clique (K : PySem.W.Frag) : Sp := pu fun vs H post => ∃ g n es t, ∃ ks : List Int, vs = [g, .ref t] ∧ Gr K H g n es ∧ SqT K H t (ks.map V.int) ∧ ks.length ≤ 100 ∧ post = Is (.bl (clq es ks))
def sp_law_pairs (K : PySem.W.Frag) : Sp := pu fun vs H post => ∃ n : Int, vs = [.int n] ∧ 0 ≤ n ∧ n ≤ 20 ∧ post = NewD K H ((rows2 n).map pD)
def sp_law_subsets (K : PySem.W.Frag) : Sp := pu fun vs H post => ∃ p, ∃ ks : List Int, vs = [.ref p] ∧ SqL K H p (ks.map V.int) ∧ ks.length ≤ 7 ∧ post = NewD K H ((subs ks).map fun l => .tuple (l.map PyData.int))
/-! ### to use them -/
section
variable {K : PySem.W.Frag} {H : Hp} {g : V} {n : Int} {es : List (Int × Int)}
theorem sv_adj {u v : Int} (G : Gr K H g n es) : SpV (sp_are_neighbours K) [g, .int u, .int v] H (.bl (adjB es u v)) :=
  sv_pu fun H1 e => ⟨_, ⟨g, n, es, u, v, rfl, G.ex e, rfl⟩, fun x H' h => h⟩
theorem sv_met {u v : Int} (G : Gr K H g n es) : SpV (sp_law_met K) [g, .int u, .int v] H (.bl (adjB es u v)) := sv_adj G
theorem sv_int {i : Int} : SpV (sp_is_integer K) [.int i] H (.bl true) := sv_pu fun H1 e => ⟨_, ⟨i, rfl, rfl⟩, fun x H' h => h⟩
theorem sv_clq {t : Addr} {ks : List Int} (G : Gr K H g n es) (h : SqT K H t (ks.map V.int)) (hl : ks.length ≤ 100) : SpV (sp_is_clique K) [g, .ref t] H (.bl (clq es ks)) :=
  sv_pu fun H1 e => ⟨_, ⟨g, n, es, t, ks, rfl, G.ex e, ex_t e h, hl, rfl⟩, fun x H' h => h⟩
theorem ty_t {a : Addr} {xs : List V} (h : SqT K H a xs) : TyX K H (.ref a) (.type "tuple") := by
  rcases h with (h | ⟨o, h⟩) | h
  · exact .base (.tup h)
  · exact .fTuple h
  · obtain ⟨o, its, m, h1, h2, _⟩ := h
    exact .kTuple h1 h2
end
end Tr
namespace Tr
open PySem PySem.Spec PyProof.Rows L2 Evl StX
section
variable {K : PySem.W.Frag} {H H' H1 : Hp} {σ : L2.St} {te ta tb tl : TE} {t u : TT}
theorem ev_allN {bs : List Bool} (h : EvN K te σ H (bs.map PyData.bool)) : Ev (tCB (rAll K) (tCons te tNil)) σ H (.bl (bs.all id)) := fun H1 e Q q => h H1 e _ fun p xs H2 hp e2 h2 ha => by
  rw [dpa_bls_inv ha] at h2
  exact ⟨p, bs, rfl, sq_of h2, q H2 e2⟩
theorem ev_lenD {ds : List PyData} (h : EvN K te σ H ds) : Ev (tCB (Evl.rLenS K) (tCons te tNil)) σ H (.int (ds.length : Int)) := fun H1 e Q q => h H1 e _ fun p xs H2 hp e2 h2 ha =>
  ⟨p, xs, rfl, .inl (sq_of h2), by
    have := q H2 e2
    rw [← dpa_len ha] at this
    exact this⟩
theorem ev_lenT {p : Addr} {xs : List V} (ha : Ev ta σ H (.ref p)) (h : SqT K H p xs) : Ev (tCB (Evl.rLenS K) (tCons ta tNil)) σ H (.int (xs.length : Int)) := fun H1 e Q q =>
  ha H1 e _ fun H2 e2 => ⟨p, xs, rfl, Or.inr (ex_t (e.trans e2) h), q H2 e2⟩
theorem ty_ex {x : V} {S : Value} (h : TyX K H x S) (e : Ex H H') : TyX K H' x S := by
  cases h with
  | base b =>
    cases b with
    | non => exact .base .non
    | bl x => exact .base (.bl x)
    | int x => exact .base (.int x)
    | str x => exact .base (.str x)
    | flt x => exact .base (.flt x)
    | lst z => exact .base (.lst (e _ _ z))
    | frz z => exact .base (.frz (e _ _ z))
    | tup z => exact .base (.tup (e _ _ z))
    | dK z => exact .base (.dK (e _ _ z))
    | dT z => exact .base (.dT (e _ _ z))
    | ins z a b c d f => exact .base (.ins (e _ _ z) a b c d f)
  | byt b => exact .byt b
  | set z => exact .set (e _ _ z)
  | kList z c => exact .kList z c
  | kTuple z c => exact .kTuple z c
  | kDict z c => exact .kDict z c
  | fTuple z => exact .fTuple (e _ _ z)
  | fDict z => exact .fDict (e _ _ z)
theorem ev_isi {x : V} {S T : String} {b : Bool} (ha : Ev ta σ H x) (ty : TyX K H x (.type S)) (k : kitB S T = some b) : Ev (tCB (rIsi K) (tCons ta (tCons (tC (.ty T)) tNil))) σ H (.bl b) := fun H1 e Q q =>
  ha H1 e _ fun H2 e2 => ⟨x, .ty T, _, _, b, rfl, .ty T, ty_ex ty (e.trans e2), kit_ty k, q H2 e2⟩
theorem ev_call1 {sp : Sp} {E : XK} {x z : V} (h : Ev ta σ H x) (hs : SpV sp [x] H z) : Ev (tCall sp [] E (tCons ta tNil)) σ H z := ev_call (ea_cons h ea_nil) hs
theorem ev_call2 {sp : Sp} {E : XK} {x y z : V} (h : Ev ta σ H x) (h2 : Ev tb σ H y) (hs : SpV sp [x, y] H z) : Ev (tCall sp [] E (tCons ta (tCons tb tNil))) σ H z := ev_call (ea_cons h (ea_cons h2 ea_nil)) hs
theorem ev_call3 {sp : Sp} {E : XK} {x y v z : V} {tc : TE} (h : Ev ta σ H x) (h2 : Ev tb σ H y) (h3 : Ev tc σ H v) (hs : SpV sp [x, y, v] H z) : Ev (tCall sp [] E (tCons ta (tCons tb (tCons tc tNil)))) σ H z := ev_call (ea_cons h (ea_cons h2 (ea_cons h3 ea_nil))) hs
theorem ev_lt {i j : Int} (ha : Ev ta σ H (.int i)) (hb : Ev tb σ H (.int j)) : Ev (tOp (rI0 fun i j => .bl (decide (i < j))) ta tb) σ H (.bl (decide (i < j))) := ev_op ha hb rv_I0
theorem ev_le {i j : Int} (ha : Ev ta σ H (.int i)) (hb : Ev tb σ H (.int j)) : Ev (tOp (rI0 fun i j => .bl (decide (i ≤ j))) ta tb) σ H (.bl (decide (i ≤ j))) := ev_op ha hb rv_I0
theorem ev_gt {i j : Int} (ha : Ev ta σ H (.int i)) (hb : Ev tb σ H (.int j)) : Ev (tOp (rI0 fun i j => .bl (decide (j < i))) ta tb) σ H (.bl (decide (j < i))) := ev_op ha hb rv_I0
theorem ev_add {i j : Int} (ha : Ev ta σ H (.int i)) (hb : Ev tb σ H (.int j)) : Ev (tOp (rI0 fun i j => .int (i + j)) ta tb) σ H (.int (i + j)) := ev_op ha hb rv_I0
theorem ev_sub {i j : Int} (ha : Ev ta σ H (.int i)) (hb : Ev tb σ H (.int j)) : Ev (tOp (rI0 fun i j => .int (i - j)) ta tb) σ H (.int (i - j)) := ev_op ha hb rv_I0
theorem ev_eqI {i j : Int} (ha : Ev ta σ H (.int i)) (hb : Ev tb σ H (.int j)) : Ev (tOp rEq ta tb) σ H (.bl (decide (i = j))) := ev_is (ev_op ha hb (rv_eq rfl)) (by simp)
theorem ev_neI {i j : Int} (ha : Ev ta σ H (.int i)) (hb : Ev tb σ H (.int j)) : Ev (tOp rNe ta tb) σ H (.bl (decide (i ≠ j))) := ev_is (ev_op ha hb (rv_ne rfl)) (by simp)
theorem ev_ixT {p : Addr} {xs : List V} {j : Nat} {v : V} (ha : Ev ta σ H (.ref p)) (hb : Ev tb σ H (.int (j : Int))) (h : SqT K H p xs) (hv : xs[j]? = some v) : Ev (tOp (rIxT K) ta tb) σ H v := ev_op ha hb (rv_ixT h (atI_nat hv))
theorem ev_ixL {p : Addr} {xs : List V} {j : Nat} {v : V} (ha : Ev ta σ H (.ref p)) (hb : Ev tb σ H (.int (j : Int))) (h : SqL K H p xs) (hv : xs[j]? = some v) : Ev (tOp (rIxL K) ta tb) σ H v := ev_op ha hb (rv_ixL h (atI_nat hv))
/-- graph[0] -/
theorem ev_n {g : V} {n : Int} {es : List (Int × Int)} (ha : Ev ta σ H g) (G : Gr K H g n es) : Ev (tOp (rIxT K) ta (tC (.int 0))) σ H (.int n) := by
  obtain ⟨a, e, rs, rfl, h1, h2, h3⟩ := G.open_
  exact ev_op ha ev_c (rv_ixT h1 (atI_nat (j := 0) rfl))
/-- graph[1] -/
theorem evd_es {g : V} {n : Int} {es : List (Int × Int)} (ha : Ev ta σ H g) (G : Gr K H g n es) : EvD K (tOp (rIxT K) ta (tC (.int 1))) σ H (.tuple (es.map pD)) := by
  obtain ⟨a, e, rs, rfl, h1, h2, h3⟩ := G.open_
  exact evd_v (ev_op ha ev_c (rv_ixT h1 (atI_nat (j := 1) rfl))) (.tup h2 h3)
/-- a for inside a pair of names: u, w = the pair -/
theorem g_pair {i j : Nat} {x : V} {p : Int × Int} {R : L2.St → Hp → Prop} (h : Dp K H x (pD p)) (r : R ((σ.set i (some (.int p.1))).set j (some (.int p.2))) H) : gTup K 2 (gCons (gName i) (gCons (gName j) gNil)) x σ H R := by
  obtain ⟨t, rfl, ht⟩ := dp_pair h
  exact ⟨t, _, rfl, ht, rfl, _, _, rfl, _, _, rfl, rfl, r⟩
theorem go_ret {D : Ends} (h : te σ H D.rt) : tRet te D σ H := h
theorem go_cb1 {r : List V → Hp → VK → Prop} {Q : VK} (h : te σ H fun x H1 => r [x] H1 Q) : tCB r (tCons te tNil) σ H Q := h
theorem go_cb2 {r : List V → Hp → VK → Prop} {Q : VK} (h : ta σ H fun x H1 => tb σ H1 fun y H2 => r [x, y] H2 Q) : tCB r (tCons ta (tCons tb tNil)) σ H Q := h
theorem go_op {r : R2} {Q : VK} (h : ta σ H fun x H1 => tb σ H1 fun y H2 => r x y H2 Q) : tOp r ta tb σ H Q := h
theorem go_asg {D : Ends} {i : Nat} (h : te σ H fun x H1 => D.nx (σ.set i (some x)) H1) : tAsg te (gName i) D σ H := h
theorem go_seq {a b : TS} {D : Ends} (h : a { D with nx := b D } σ H) : tSeq a b D σ H := h
theorem go_seqA {b : TS} {D : Ends} {i : Nat} (h : te σ H fun x H1 => b D (σ.set i (some x)) H1) : tSeq (tAsg te (gName i)) b D σ H := h
theorem go_drop {D : Ends} (h : te σ H fun _ H1 => D.nx σ H1) : tDrop te D σ H := h
/-- all of a filter -/
theorem all_map {al : Type} (l : List al) (f : al → Bool) : (l.map f).all id = l.all f := by
  induction l with
  | nil => rfl
  | cons a l ih => simp [ih]
end
end Tr
namespace Tr
open PySem PySem.Spec PyProof.Rows L2 Evl StX
section
variable {K : PySem.W.Frag} {H : Hp} {σ : L2.St} {te tl tl1 : TE} {t1 : TT}
theorem yes_go {σ : L2.St} {H : Hp} {Q : Bool → Hp → Prop} (h : Q true H) : tYes σ H Q := h
/-- all([b for u in ks for v in ks if p]) -/
theorem ev_all2 {a : Addr} {ks : List Int} {i j : Nat} {vs vs1 : List Nat} (p B : Int → Int → Bool) (hl : Ev tl σ H (.ref a)) (hx : SqT K H a (ks.map V.int)) (hz : ks.length ≤ 200)
    (hw : ∀ u : Int, wipe ((wipe σ vs).set i (some (.int u))) vs = wipe σ vs) (hw1 : ∀ u v : Int, wipe ((wipe ((wipe σ vs).set i (some (.int u))) vs1).set j (some (.int v))) vs1 = wipe ((wipe σ vs).set i (some (.int u))) vs1)
    (hl1 : ∀ (u : Int) H1, Ex H H1 → Ev tl1 ((wipe σ vs).set i (some (.int u))) H1 (.ref a))
    (ht : ∀ (u v : Int) H1, Ex H H1 → EvT t1 ((wipe ((wipe σ vs).set i (some (.int u))) vs1).set j (some (.int v))) H1 (p u v))
    (he : ∀ (u v : Int) H1, Ex H H1 → Ev te ((wipe ((wipe σ vs).set i (some (.int u))) vs1).set j (some (.int v))) H1 (.bl (B u v))) :
    Ev (tCB (rAll K) (tCons (tLc2 (iTup K tl) (gName i) tYes (iTup K tl1) (gName j) t1 te vs vs1) tNil)) σ H (.bl (ks.all fun u => (ks.filter (p u)).all (B u))) := fun H0 e Q q => hl H0 e _ fun H1 e1 => by
  have hx1 : SqT K H1 a (ks.map V.int) := ex_t (e.trans e1) hx
  have hlen : (ks.map V.int).length = ks.length := List.length_map ..
  let row : Int → Bool := fun u => (ks.filter (p u)).all (B u)
  refine ⟨a, rfl, ⟨_, hx1⟩, fun D hD => ⟨fun k m H' => m = ks.length - k ∧ k ≤ ks.length ∧ Ex H1 H' ∧ ∃ acc : List Bool, H' D = some (.lst (acc.map V.bl)) ∧ acc.length ≤ k * ks.length ∧ acc.all id = (ks.take k).all row,
    ⟨ks.length, by simp, Nat.zero_le _, Ex.new hD, [], upd_same, Nat.zero_le _, rfl⟩, ?_⟩⟩
  rintro k m H' ⟨rfl, hk, e2, acc, h1, h2, h3⟩
  have hx2 : SqT K H' a (ks.map V.int) := ex_t e2 hx1
  by_cases hlt : k < ks.length
  · have gk : (ks.map V.int)[k]? = some (.int ks[k]) := by
      rw [List.getElem?_map, List.getElem?_eq_getElem hlt]
      rfl
    have tk : ks.take (k + 1) = ks.take k ++ [ks[k]] := by
      rw [List.take_add_one, List.getElem?_eq_getElem hlt]
      rfl
    refine .inr ⟨⟨_, _, hx2, gk⟩, fun H' => Ex H1 H' ∧ ∃ acc : List Bool, H' D = some (.lst (acc.map V.bl)) ∧ acc.length ≤ (k + 1) * ks.length ∧ acc.all id = (ks.take (k + 1)).all row, fun H3 hN => ⟨ks.length - (k + 1), by omega, rfl, by omega, hN⟩, fun x H3 hy => ?_⟩
    obtain ⟨rfl, fx⟩ := hy
    have ex : x = .int ks[k] := Option.some.inj ((fx _ hx2).symm.trans gk)
    subst ex
    refine ⟨hw _, ?_⟩
    refine yes_go ?_
    refine iteT ?_
    refine hl1 ks[k] H3 ((e.trans e1).trans e2) H3 (Ex.refl H3) _ fun H4 e4 => ?_
    have hx4 : SqT K H4 a (ks.map V.int) := ex_t e4 hx2
    refine ⟨a, rfl, ⟨_, hx4⟩, fun l m H' => m = ks.length - l ∧ l ≤ ks.length ∧ Ex H1 H' ∧ ∃ ac : List Bool, H' D = some (.lst (ac.map V.bl)) ∧ ac.length ≤ k * ks.length + l ∧ ac.all id = ((ks.take k).all row && ((ks.take l).filter (p ks[k])).all (B ks[k])),
      ⟨ks.length, by simp, Nat.zero_le _, e2.trans e4, acc, e4 _ _ h1, by omega, by simp [h3]⟩, ?_⟩
    rintro l m H5 ⟨rfl, hl5, e5, ac, g1, g2, g3⟩
    have hx5 : SqT K H5 a (ks.map V.int) := ex_t e5 hx1
    by_cases hlt5 : l < ks.length
    · have gl : (ks.map V.int)[l]? = some (.int ks[l]) := by
        rw [List.getElem?_map, List.getElem?_eq_getElem hlt5]
        rfl
      have tl5 : ks.take (l + 1) = ks.take l ++ [ks[l]] := by
        rw [List.take_add_one, List.getElem?_eq_getElem hlt5]
        rfl
      refine .inr ⟨⟨_, _, hx5, gl⟩, fun H' => Ex H1 H' ∧ ∃ ac : List Bool, H' D = some (.lst (ac.map V.bl)) ∧ ac.length ≤ k * ks.length + (l + 1) ∧ ac.all id = ((ks.take k).all row && ((ks.take (l + 1)).filter (p ks[k])).all (B ks[k])), fun H6 hN => ⟨ks.length - (l + 1), by omega, rfl, by omega, hN⟩, fun x H6 hy => ?_⟩
      obtain ⟨rfl, fx⟩ := hy
      have ex : x = .int ks[l] := Option.some.inj ((fx _ hx5).symm.trans gl)
      subst ex
      refine ⟨hw1 _ _, ht ks[k] ks[l] H6 ((e.trans e1).trans e5) H6 (Ex.refl H6) _ fun H7 e7 => ?_⟩
      refine ite2 (fun hp => ?_) (fun hp => ?_)
      · refine he ks[k] ks[l] H6 ((e.trans e1).trans e5) H7 e7 _ fun H8 e8 => ?_
        have g8 : H8 D = some (.lst (ac.map V.bl)) := e8 _ _ (e7 _ _ g1)
        have bnd : k * ks.length ≤ 200 * 200 := Nat.mul_le_mul (by omega) hz
        refine ⟨_, g8, sz_lt (by rw [List.length_map]; exact Nat.lt_of_le_of_lt g2 (by omega)), Ex.mut ((e5.trans e7).trans e8) hD, ac ++ [B ks[k] ks[l]], by rw [upd_same, List.map_append]; rfl, by rw [List.length_append]; simp; omega, ?_⟩
        rw [tl5, List.filter_append, List.filter_cons, if_pos hp, List.all_append, g3, List.all_append]
        simp [Bool.and_assoc]
      · refine ⟨e5.trans e7, ac, e7 _ _ g1, by omega, ?_⟩
        rw [tl5, List.filter_append, List.filter_cons, if_neg hp, g3]
        simp
    · refine .inl ⟨⟨_, hx5, by rw [hlen]; omega⟩, e5, ac, g1, ?_, ?_⟩
      · rw [Nat.add_mul]
        omega
      · have e9 : ks.take l = ks := List.take_of_length_le (by omega)
        rw [g3, tk, List.all_append, e9]
        simp [row]
  · refine .inl ⟨⟨_, hx2, by rw [hlen]; omega⟩, ⟨D, acc, rfl, sq_of h1, ?_⟩⟩
    have e9 : ks.take k = ks := List.take_of_length_le (by omega)
    rw [h3, e9]
    exact q H' (e1.trans e2)
end
end Tr
namespace Tr
open PySem PySem.Spec PyProof.Rows L2 Evl StX
/-- different vertices -/
structure GoodT (n : Int) (ks : List Int) : Prop where
  nd : ks.Nodup
  rg : ∀ k ∈ ks, 0 ≤ k ∧ k < n
  len : ks.length ≤ 100
/-- an order as for chordal -/
def Peo (es : List (Int × Int)) (ks : List Int) : Prop := ∀ k (hk : k < ks.length), ∀ y ∈ ks.drop (k + 1), ∀ z ∈ ks.drop (k + 1), adj es ks[k] y → adj es ks[k] z → y ≠ z → adj es y z
def behindL (es : List (Int × Int)) (ks : List Int) (k : Nat) : List Int := (ks.drop (k + 1)).filter fun v => adjB es (ks.getD k 0) v
def sp_behind (K : PySem.W.Frag) : Sp := pu fun vs H post => ∃ g n es t, ∃ ks : List Int, ∃ k : Nat, vs = [g, .ref t, .int (k : Int)] ∧ Gr K H g n es ∧ Ok n es ∧ SqT K H t (ks.map V.int) ∧ ks.length ≤ 100 ∧ k < ks.length ∧ post = NewL H ((behindL es ks k).map V.int)
def sp_is_vertex_tuple (K : PySem.W.Frag) : Sp := pu fun vs H post => ∃ g n es t, ∃ ks : List Int, vs = [g, .ref t] ∧ Gr K H g n es ∧ SqT K H t (ks.map V.int) ∧ GoodT n ks ∧ post = Is (.bl true)
def sp_is_order (K : PySem.W.Frag) : Sp := pu fun vs H post => ∃ g n es t, ∃ ks : List Int, vs = [g, .ref t] ∧ Gr K H g n es ∧ SqT K H t (ks.map V.int) ∧ GoodT n ks ∧ (ks.length : Int) = n ∧ post = Is (.bl true)
def sp_is_path (K : PySem.W.Frag) : Sp := pu fun vs H post => ∃ g n es t, ∃ ks : List Int, vs = [g, .ref t] ∧ Gr K H g n es ∧ SqT K H t (ks.map V.int) ∧ GoodT n ks ∧ ks ≠ [] ∧ (∀ i (h : i + 1 < ks.length), adj es ks[i] ks[i + 1]) ∧ post = Is (.bl true)
def HoleArg (K : PySem.W.Frag) (H : Hp) (g : V) (t : Addr) : Prop := ∃ n es, ∃ ks : List Int, Gr K H g n es ∧ SqT K H t (ks.map V.int) ∧ GoodT n ks ∧ Ok n es ∧ HoleP (adj es) ks
def sp_is_cycle (K : PySem.W.Frag) : Sp := pu fun vs H post => ∃ g t, vs = [g, .ref t] ∧ HoleArg K H g t ∧ post = Is (.bl true)
def sp_is_hole (K : PySem.W.Frag) : Sp := sp_is_cycle K
def sp_has_no_chord (K : PySem.W.Frag) : Sp := pu fun vs H post => ∃ g t, vs = [g, .ref t, .bl true] ∧ HoleArg K H g t ∧ post = Is (.bl true)
def PeoArg (K : PySem.W.Frag) (H : Hp) (g : V) (t : Addr) : Prop := ∃ n es, ∃ ks : List Int, Gr K H g n es ∧ SqT K H t (ks.map V.int) ∧ GoodT n ks ∧ Ok n es ∧ (ks.length : Int) = n ∧ Peo es ks
def sp_check_chordal (K : PySem.W.Frag) : Sp := pu fun vs H post => ∃ g t, ((vs = [g, .str "no", .ref t] ∧ HoleArg K H g t) ∨ (vs = [g, .str "yes", .ref t] ∧ PeoArg K H g t)) ∧ post = Is (.bl true)
section
variable {K : PySem.W.Frag} {H H' : Hp} {σ : L2.St} {ta tb tc : TE} {g : V} {t : Addr} {n : Int} {es : List (Int × Int)} {ks : List Int}
theorem HoleArg.ex (h : HoleArg K H g t) (e : Ex H H') : HoleArg K H' g t := by
  obtain ⟨n, es, ks, a, b, c⟩ := h
  exact ⟨n, es, ks, a.ex e, ex_t e b, c⟩
theorem PeoArg.ex (h : PeoArg K H g t) (e : Ex H H') : PeoArg K H' g t := by
  obtain ⟨n, es, ks, a, b, c⟩ := h
  exact ⟨n, es, ks, a.ex e, ex_t e b, c⟩
theorem sv_ituple {t : Addr} {ks : List Int} (h : SqT K H t (ks.map V.int)) (hl : ks.length ≤ 400) : SpV (sp_is_integer_tuple K) [.ref t] H (.bl true) := sv_pu fun H1 e => ⟨_, ⟨t, ks, rfl, ex_t e h, hl, rfl⟩, fun x H' h => h⟩
theorem sv_vtuple (G : Gr K H g n es) (h : SqT K H t (ks.map V.int)) (hg : GoodT n ks) : SpV (sp_is_vertex_tuple K) [g, .ref t] H (.bl true) := sv_pu fun H1 e => ⟨_, ⟨g, n, es, t, ks, rfl, G.ex e, ex_t e h, hg, rfl⟩, fun x H' h => h⟩
theorem sv_path (G : Gr K H g n es) (h : SqT K H t (ks.map V.int)) (hg : GoodT n ks) (h0 : ks ≠ []) (ha : ∀ i (h : i + 1 < ks.length), adj es ks[i] ks[i + 1]) : SpV (sp_is_path K) [g, .ref t] H (.bl true) := sv_pu fun H1 e => ⟨_, ⟨g, n, es, t, ks, rfl, G.ex e, ex_t e h, hg, h0, ha, rfl⟩, fun x H' h => h⟩
theorem sv_order (G : Gr K H g n es) (h : SqT K H t (ks.map V.int)) (hg : GoodT n ks) (hn : (ks.length : Int) = n) : SpV (sp_is_order K) [g, .ref t] H (.bl true) := sv_pu fun H1 e => ⟨_, ⟨g, n, es, t, ks, rfl, G.ex e, ex_t e h, hg, hn, rfl⟩, fun x H' h => h⟩
theorem sv_cycle (h : HoleArg K H g t) : SpV (sp_is_cycle K) [g, .ref t] H (.bl true) := sv_pu fun H1 e => ⟨_, ⟨g, t, rfl, h.ex e, rfl⟩, fun x H' h => h⟩
theorem sv_ishole (h : HoleArg K H g t) : SpV (sp_is_hole K) [g, .ref t] H (.bl true) := sv_cycle h
theorem sv_chord (h : HoleArg K H g t) : SpV (sp_has_no_chord K) [g, .ref t, .bl true] H (.bl true) := sv_pu fun H1 e => ⟨_, ⟨g, t, rfl, h.ex e, rfl⟩, fun x H' h => h⟩
theorem ev_chain {i j k : Int} (ha : Ev ta σ H (.int i)) (hb : Ev tb σ H (.int j)) (hc : Ev tc σ H (.int k)) : Ev (tChain (rI0 fun i j => .bl (decide (i ≤ j))) (rI0 fun i j => .bl (decide (i < j))) ta tb tc) σ H (.bl (decide (i ≤ j) && decide (j < k))) := fun H1 e Q q =>
  ha H1 e _ fun H2 e2 => hb H2 (e.trans e2) _ fun H3 e3 => ⟨i, j, rfl, rfl, decide (i ≤ j), rfl, by
    cases hd : decide (i ≤ j) with
    | true =>
      simp only [hd, Bool.true_and] at q
      exact iteT (hc H3 ((e.trans e2).trans e3) _ fun H4 e4 => ⟨j, k, rfl, rfl, q H4 ((e2.trans e3).trans e4)⟩)
    | false =>
      simp only [hd, Bool.false_and] at q
      exact iteF (q H3 (e2.trans e3))⟩
theorem cut_from (xs : List V) (k : Nat) : cutV xs (some ((k : Nat) : Int)) none = xs.drop k := by
  unfold cutV
  rw [HT.sIx_nat, HT.sIx_none]
  by_cases h : k ≤ xs.length
  · rw [Nat.min_eq_left h, List.take_of_length_le (by rw [List.length_drop]; exact Nat.le_refl _)]
  · rw [Nat.min_eq_right (by omega), List.drop_of_length_le (by omega), List.drop_of_length_le (i := k) (by omega)]
    simp
/-- a tuple's rest from the k-th, k at least one and not beyond -/
theorem eu_from {a : Addr} {xs : List V} {k : Nat} (ha : Ev ta σ H (.ref a)) (hx : SqT K H a xs) (hk : 1 ≤ k) (h0 : 0 < xs.length) (hb : Ev tb σ H (.int (k : Int))) : EvU (tSl (rSlA K) ta (tPart tb) tNoPart) σ H (xs.drop k) := fun H1 e Q q =>
  ha H1 e _ fun H2 e2 => hb H2 (e.trans e2) _ fun H3 e3 => ⟨k, rfl, a, xs, rfl, ex_t ((e.trans e2).trans e3) hx, fun z => by
    exfalso
    have := z.1
    rw [HT.sIx_nat] at this
    omega, fun _ p hp => by
    rw [cut_from]
    exact q p _ (fresh_back (e2.trans e3) hp) ((e2.trans e3).trans (Ex.new hp)) upd_same⟩
theorem evd_U {te : TE} {xs : List V} {ds : List PyData} (h : EvU te σ H xs) (hd : DpAll K H xs ds) : EvD K te σ H (.tuple ds) := fun H1 e Q q => h H1 e Q fun p H2 hp e2 h2 => q _ H2 e2 (.tup (st_of h2) (dpa_ex (e.trans e2) hd))
end
end Tr
namespace Tr
open PySem PySem.Spec PyProof.Rows L2 Evl StX
section
variable {K : PySem.W.Frag} {H : Hp} {σ : L2.St} {te : TE} {ta : TA}
theorem zip_at {ks js : List Int} {i : Nat} (h1 : i < ks.length) (h2 : i < js.length) : (ks.zip js)[i]? = some (ks[i], js[i]) := by
  rw [List.getElem?_eq_getElem (by rw [List.length_zip]; omega), List.getElem_zip]
/-- [e for u, v in zip(two tuples of ints)] -/
theorem en_Z {ks js : List Int} {i j : Nat} {vs : List Nat} (r : Int × Int → PyData) (hr : ∀ a, noL (r a) = true) (hz : ks.length ≤ 400)
    (hs : ∀ H1, Ex H H1 → ∀ Q : List V → Hp → Prop, (∀ a b H2, Ex H1 H2 → SqT K H2 a (ks.map V.int) → SqT K H2 b (js.map V.int) → Q [.ref a, .ref b] H2) → ta σ H1 Q)
    (hw : ∀ p : Int × Int, wipe (((wipe σ vs).set i (some (.int p.1))).set j (some (.int p.2))) vs = wipe σ vs)
    (he : ∀ (p : Int × Int) H1, p ∈ ks.zip js → Ex H H1 → EvD K te (((wipe σ vs).set i (some (.int p.1))).set j (some (.int p.2))) H1 (r p)) :
    EvN K (tLc (RZ.iZipA K ta) (gTup K 2 (gCons (gName i) (gCons (gName j) gNil))) tYes te vs) σ H ((ks.zip js).map r) := fun H0 e Q q => hs H0 e _ fun a b H1 e1 ha hb => by
  refine ⟨a, b, _, _, rfl, .inr ⟨ha, hb, fun D hD => ⟨fun k m H' => m = ks.length - k ∧ k ≤ ks.length ∧ CwA K H1 (ks.zip js) (fun _ => true) r D k H', ⟨ks.length, by simp, Nat.zero_le _, cwA_start hD⟩, ?_⟩⟩⟩
  rintro k m H' ⟨rfl, hk, c⟩
  have ha2 := ex_t c.2.1 ha
  have hb2 := ex_t c.2.1 hb
  have at1 : ∀ (ls : List Int) (h : k < ls.length), (ls.map V.int)[k]? = some (.int ls[k]) := fun ls h => by
    rw [List.getElem?_map, List.getElem?_eq_getElem h]
    rfl
  by_cases hlt : k < ks.length ∧ k < js.length
  · obtain ⟨l1, l2⟩ := hlt
    refine .inr ⟨⟨_, _, _, _, ha2, hb2, at1 ks l1, at1 js l2⟩, CwA K H1 (ks.zip js) (fun _ => true) r D (k + 1), fun H3 hN => ⟨ks.length - (k + 1), by omega, rfl, by omega, hN⟩, fun x H3 hy => ?_⟩
    obtain ⟨T, x1, x2, rfl, nT, rfl, f1, f2⟩ := hy
    have ex1 : x1 = .int ks[k] := Option.some.inj ((f1 _ ha2).symm.trans (at1 ks l1))
    have ex2 : x2 = .int js[k] := Option.some.inj ((f2 _ hb2).symm.trans (at1 js l2))
    subst ex1 ex2
    have eT : Ex H' (upd H' T (.tup [.int ks[k], .int js[k]])) := Ex.new nT
    have c2 : CwA K H1 (ks.zip js) (fun _ => true) r D k (upd H' T (.tup [.int ks[k], .int js[k]])) := by
      obtain ⟨p1, p2, acc, p3, p4⟩ := c
      exact ⟨p1, p2.trans eT, acc, eT _ _ p3, dpa_ex eT p4⟩
    have hm := zip_at l1 l2
    refine ⟨T, _, rfl, st_of upd_same, rfl, _, _, rfl, _, _, rfl, rfl, hw (ks[k], js[k]), ?_⟩
    have := cwA_turn (σ2 := ((wipe σ vs).set i (some (.int ks[k]))).set j (some (.int js[k]))) (t := tYes) (te := te) hr (by rw [List.length_zip]; omega) c2 hm et_yes fun _ => he (ks[k], js[k]) _ (List.mem_of_getElem? hm) ((e.trans e1).trans c2.2.1)
    exact this
  · have hl : (ks.zip js).length ≤ k := by
      rw [List.length_zip]
      omega
    refine .inl ⟨⟨_, _, ha2, hb2, by rw [List.length_map, List.length_map]; omega⟩, ?_⟩
    obtain ⟨p1, p2, acc, p3, p4⟩ := c
    rw [List.take_of_length_le hl] at p4
    have e5 : ((ks.zip js).filter fun _ => true) = ks.zip js := List.filter_eq_self.mpr fun _ _ => rfl
    rw [e5] at p4
    exact q D acc H' (fresh_back e1 p1) (e1.trans p2) p3 p4
end
end Tr
namespace Tr
open PySem PySem.Spec PyProof.Rows L2 Evl StX
/-! ### a dict of ints -/
def dkv (ps : List (Int × Int)) : List (Key × V) := ps.map fun p => (Sum.inl p.1, V.int p.2)
def lk (ps : List (Int × Int)) (k : Int) : Option Int := (ps.find? fun p => decide (p.1 = k)).map (·.2)
theorem valV_dkv (k : Int) : ∀ ps : List (Int × Int), valV (dkv ps) (Sum.inl k) = (lk ps k).map V.int
  | [] => rfl
  | p :: r => by
    have ih := valV_dkv k r
    by_cases e : p.1 = k
    · rw [dkv, List.map_cons, valV_pos (by simp [e]), lk, List.find?_cons, decide_eq_true e]
      rfl
    · rw [dkv, List.map_cons, valV_neg (by simpa using e), lk, List.find?_cons, decide_eq_false e]
      exact ih
theorem lk_none {k : Int} : ∀ {ps : List (Int × Int)}, lk ps k = none ↔ k ∉ ps.map (·.1)
  | [] => by simp [lk]
  | p :: r => by
    have ih := lk_none (k := k) (ps := r)
    by_cases e : p.1 = k
    · simp [lk, List.find?_cons, e]
    · have e2 : ¬ k = p.1 := fun z => e z.symm
      simp only [lk, List.find?_cons, decide_eq_false e, List.map_cons, List.mem_cons, e2, false_or]
      exact ih
theorem isSome_dkv (k : Int) (ps : List (Int × Int)) : (valV (dkv ps) (Sum.inl k)).isSome = decide (k ∈ ps.map (·.1)) := by
  rw [valV_dkv]
  cases h : lk ps k with
  | none =>
    have := lk_none.mp h
    simp only [Option.map_none, Option.isSome_none]
    exact (decide_eq_false this).symm
  | some q =>
    have : k ∈ ps.map (·.1) := by
      apply Classical.byContradiction
      intro z
      rw [lk_none.mpr z] at h
      cases h
    simp only [Option.map_some, Option.isSome_some]
    exact (decide_eq_true this).symm
theorem lk_at {k q : Int} : ∀ {ps : List (Int × Int)} {i : Nat}, (ps.map (·.1)).Nodup → ps[i]? = some (k, q) → lk ps k = some q
  | [], i, _, h => by simp at h
  | p :: r, 0, _, h => by
    have e : p = (k, q) := by simpa using h
    subst e
    simp [lk, List.find?_cons]
  | p :: r, i + 1, nd, h => by
    have nd2 := List.nodup_cons.mp nd
    have h2 : r[i]? = some (k, q) := by simpa using h
    have ne : ¬ p.1 = k := fun z => nd2.1 (List.mem_map.mpr ⟨_, List.mem_of_getElem? h2, z.symm⟩)
    have ih := lk_at nd2.2 h2
    simp only [lk, List.find?_cons, decide_eq_false ne]
    exact ih
theorem put_dkv {k x : Int} {ps : List (Int × Int)} (h : k ∉ ps.map (·.1)) : putK (dkv ps) (Sum.inl k) (V.int x) = dkv (ps ++ [(k, x)]) := by
  unfold putK
  rw [if_neg]
  · simp [dkv]
  · rw [valV_any, isSome_dkv]
    simp only [decide_eq_true_eq]
    exact h
theorem len_of_sub {al : Type} [DecidableEq al] : ∀ {l m : List al}, l.Nodup → (∀ x ∈ l, x ∈ m) → l.length ≤ m.length
  | [], _, _, _ => Nat.zero_le _
  | a :: r, m, nd, h => by
    have nd2 := List.nodup_cons.mp nd
    have ha : a ∈ m := h a List.mem_cons_self
    have ih := len_of_sub (l := r) (m := m.erase a) nd2.2 fun x hx => (List.mem_erase_of_ne (fun z : x = a => nd2.1 (by rw [← z]; exact hx))).mpr (h x (List.mem_cons_of_mem _ hx))
    have e := List.length_erase_of_mem ha
    have hp : 0 < m.length := List.length_pos_of_mem ha
    simp only [List.length_cons]
    omega
theorem len_range {n : Int} {ks : List Int} (nd : ks.Nodup) (h : ∀ k ∈ ks, 0 ≤ k ∧ k < n) : ks.length ≤ n.toNat := by
  have := len_of_sub (m := rgI 0 n.toNat) nd fun x hx => mem_rgI.mpr (by have := h x hx; omega)
  rwa [rgI_len] at this
def sp_shortest_path (K : PySem.W.Frag) : Sp := fun vs H Q _ => ∃ g n es a b p, ∃ avl : List Int, vs = [g, .int a, .int b, .ref p] ∧ Gr K H g n es ∧ Ok n es ∧ SqL K H p (avl.map V.int) ∧ (0 ≤ a ∧ a < n) ∧
  (∀ H', Ex H H' → ¬ Conn (adj es) (fun w => ¬ w ∈ avl) a b → Q .non H') ∧
  ∀ (R : List Int) t H', Ex H H' → IPath (adj es) (fun w => w ∈ avl) a b R → GoodT n R → SqT K H' t (R.map V.int) → Q (.ref t) H'
section
variable {K : PySem.W.Frag} {H : Hp} {σ : L2.St} {ta tb : TE}
theorem et_ndin {d : Addr} {ps : List (Int × Int)} {k : Int} (ha : Ev ta σ H (.int k)) (hb : Ev tb σ H (.ref d)) (hd : H d = some (.dK (dkv ps))) : EvT (tB (tDNotIn ta tb)) σ H (!decide (k ∈ ps.map (·.1))) := fun H1 e Q q =>
  ha H1 e _ fun H2 e2 => hb H2 (e.trans e2) _ fun H3 e3 => ⟨d, _, rfl, DGet.k (k := Sum.inl k) ((e.trans e2).trans e3 d _ hd), _, rfl, by
    rw [isSome_dkv]
    exact q H3 (e2.trans e3)⟩
theorem ev_last {p : Addr} {xs : List V} {v : V} (ha : Ev ta σ H (.ref p)) (h : SqL K H p xs) (hv : xs[xs.length - 1]? = some v) : Ev (tOp (rIxL K) ta (tUn (rU fun i => .int (-i)) (tC (.int 1)))) σ H v := by
  have hne : xs ≠ [] := fun z => by
    subst z
    simp at hv
  have e : xs = xs.dropLast ++ [v] := by
    have h2 := List.dropLast_concat_getLast hne
    rw [List.getLast_eq_getElem] at h2
    rw [List.getElem?_eq_getElem (by have := List.length_pos_iff.mpr hne; omega)] at hv
    rw [← Option.some.inj hv]
    exact h2.symm
  rw [e] at h
  exact ev_op ha (ev_un ev_c ru_neg) (rv_ixL h (atI_last _ _))
end
end Tr
namespace Tr
open PySem PySem.Spec PyProof.Rows L2 Evl StX
def sp_find_hole (K : PySem.W.Frag) : Sp := fun vs H Q _ => ∃ g n es, vs = [g] ∧ Gr K H g n es ∧ Ok n es ∧ (∀ H', Ex H H' → NoHoleC (adj es) → Q .non H') ∧
  ∀ (h : List Int) t H', Ex H H' → HoleP (adj es) h → GoodT n h → SqT K H' t (h.map V.int) → Q (.ref t) H'
def sp_clique_order (K : PySem.W.Frag) : Sp := fun vs H Q _ => ∃ g n es, vs = [g] ∧ Gr K H g n es ∧ Ok n es ∧ NoHoleC (adj es) ∧
  ∀ (ks : List Int) t H', Ex H H' → GoodT n ks → (ks.length : Int) = n → Peo es ks → SqT K H' t (ks.map V.int) → Q (.ref t) H'
/-- what decide hands back -/
def Paper (K : PySem.W.Frag) (H : Hp) (x : V) (n : Int) (es : List (Int × Int)) : Prop := ∃ p t, ∃ ks : List Int, x = .ref p ∧ SqT K H t (ks.map V.int) ∧ GoodT n ks ∧
  ((SqT K H p [.str "yes", .ref t] ∧ (ks.length : Int) = n ∧ Peo es ks ∧ NoHoleC (adj es)) ∨ (SqT K H p [.str "no", .ref t] ∧ HoleP (adj es) ks))
def sp_decide_chordal (K : PySem.W.Frag) : Sp := pu fun vs H post => ∃ g n es, vs = [g] ∧ Gr K H g n es ∧ Ok n es ∧ post = fun x H' => Paper K H' x n es
theorem clq_congr {es : List (Int × Int)} {l m : List Int} (h : ∀ x, x ∈ l ↔ x ∈ m) : clq es l = clq es m := by
  have key : ∀ l m : List Int, (∀ x, x ∈ l ↔ x ∈ m) → clq es l = true → clq es m = true := fun l m h hl => by
    unfold clq at *
    rw [List.all_eq_true] at *
    intro u hu
    have h1 := hl u ((h u).mpr hu)
    rw [List.all_eq_true] at *
    intro v hv
    rw [List.mem_filter] at hv
    exact h1 v (List.mem_filter.mpr ⟨(h v).mpr hv.1, hv.2⟩)
  cases a : clq es l with
  | true => exact (key l m h a).symm
  | false =>
    cases b : clq es m with
    | true => rw [key m l (fun x => (h x).symm) b] at a; cases a
    | false => rfl
theorem clq_iff {es : List (Int × Int)} {l : List Int} : clq es l = true ↔ ∀ u ∈ l, ∀ v ∈ l, u ≠ v → adj es u v := by
  unfold clq
  rw [List.all_eq_true]
  constructor
  · intro h u hu v hv hne
    rcases Int.lt_or_gt_of_ne hne with hlt | hlt
    · have := h u hu
      rw [List.all_eq_true] at this
      exact (adjB_iff _ _ _).mp (this v (List.mem_filter.mpr ⟨hv, decide_eq_true hlt⟩))
    · have := h v hv
      rw [List.all_eq_true] at this
      exact adj_sym _ _ ((adjB_iff _ _ _).mp (this u (List.mem_filter.mpr ⟨hu, decide_eq_true hlt⟩)))
  · intro h u hu
    rw [List.all_eq_true]
    intro v hv
    rw [List.mem_filter] at hv
    refine (adjB_iff _ _ _).mpr (h u hu v hv.1 ?_)
    have := of_decide_eq_true hv.2
    omega
/-- the part of an order that is done -/
def PeoP (es : List (Int × Int)) (ord lf : List Int) : Prop := ∀ k (hk : k < ord.length) y z, (y ∈ ord.drop (k + 1) ∨ y ∈ lf) → (z ∈ ord.drop (k + 1) ∨ z ∈ lf) → adj es ord[k] y → adj es ord[k] z → y ≠ z → adj es y z
theorem PeoP.step {es : List (Int × Int)} {ord lf : List Int} {x : Int} (h : PeoP es ord lf) (hx : x ∈ lf) (hs : ∀ y ∈ lf, ∀ z ∈ lf, adj es x y → adj es x z → y ≠ z → adj es y z) : PeoP es (ord ++ [x]) (lf.erase x) := by
  intro k hk y z hy hz ha hb hne
  rw [List.length_append] at hk
  by_cases hlt : k < ord.length
  · rw [List.getElem_append_left hlt] at ha hb
    have conv : ∀ w, (w ∈ (ord ++ [x]).drop (k + 1) ∨ w ∈ lf.erase x) → (w ∈ ord.drop (k + 1) ∨ w ∈ lf) := fun w hw => by
      rcases hw with hw | hw
      · rw [List.drop_append_of_le_length (by omega)] at hw
        rcases List.mem_append.mp hw with hw | hw
        · exact .inl hw
        · right
          have : w = x := by simpa using hw
          rw [this]
          exact hx
      · exact .inr (List.mem_of_mem_erase hw)
    exact h k hlt y z (conv y hy) (conv z hz) ha hb hne
  · have hk2 : k = ord.length := by
      simp only [List.length_cons, List.length_nil] at hk
      omega
    subst hk2
    have ex : (ord ++ [x])[ord.length]'(by rw [List.length_append]; exact hk) = x := by simp
    rw [ex] at ha hb
    have conv : ∀ w, (w ∈ (ord ++ [x]).drop (ord.length + 1) ∨ w ∈ lf.erase x) → w ∈ lf := fun w hw => by
      rcases hw with hw | hw
      · rw [List.drop_of_length_le (by simp)] at hw
        cases hw
      · exact List.mem_of_mem_erase hw
    exact hs y (conv y hy) z (conv z hz) ha hb hne
section
variable {K : PySem.W.Frag} {H H' : Hp}
theorem rgV_ints (n : Int) : rgV 0 n = (rgI 0 n.toNat).map V.int := by
  unfold rgV rgI
  rw [List.map_map, show (n - 0).toNat = n.toNat by omega]
  rfl
end
end Tr
namespace Tr
open PySem PySem.Spec PyProof.Rows L2 Evl StX
def kindsV : List V := [.str "connected", .str "bipartite", .str "forest", .str "block", .str "chordal", .str "interval", .str "cograph", .str "comparability", .str "permutation", .str "prime", .str "planar", .str "outerplanar"]
def sp_is_question (K : PySem.W.Frag) : Sp := pu fun vs H post => ∃ g t, vs = [g, .ref t] ∧ SqT K H t [.str "chordal"] ∧ post = Is (.bl true)
def sp_check_question (K : PySem.W.Frag) : Sp := pu fun vs H post => ∃ g t, vs = [g, .ref t] ∧ SqT K H t [.str "chordal"] ∧ post = Is .non
def sp_decide_plain (K : PySem.W.Frag) : Sp := pu fun vs H post => ∃ g n es, vs = [g, .str "chordal"] ∧ Gr K H g n es ∧ Ok n es ∧ post = fun x H' => Paper K H' x n es
def sp_decide (K : PySem.W.Frag) : Sp := pu fun vs H post => ∃ g n es t, vs = [g, .ref t] ∧ SqT K H t [.str "chordal"] ∧ Gr K H g n es ∧ Ok n es ∧ post = fun x H' => Paper K H' x n es
def sp_check_plain (K : PySem.W.Frag) : Sp := pu fun vs H post => ∃ g t, ((vs = [g, .str "chordal", .str "no", .ref t] ∧ HoleArg K H g t) ∨ (vs = [g, .str "chordal", .str "yes", .ref t] ∧ PeoArg K H g t)) ∧ post = Is (.bl true)
def sp_check (K : PySem.W.Frag) : Sp := pu fun vs H post => ∃ g n es t x, vs = [g, .ref t, x] ∧ SqT K H t [.str "chordal"] ∧ Gr K H g n es ∧ Ok n es ∧ Paper K H x n es ∧ post = Is (.bl true)
section
variable {K : PySem.W.Frag} {H H' : Hp} {g x : V} {t : Addr} {n : Int} {es : List (Int × Int)}
theorem Paper.ex (h : Paper K H x n es) (e : Ex H H') : Paper K H' x n es := by
  obtain ⟨p, t, ks, a, b, c, d⟩ := h
  refine ⟨p, t, ks, a, ex_t e b, c, ?_⟩
  rcases d with ⟨d1, d2⟩ | ⟨d1, d2⟩
  · exact .inl ⟨ex_t e d1, d2⟩
  · exact .inr ⟨ex_t e d1, d2⟩
theorem sv_isq (h : SqT K H t [.str "chordal"]) : SpV (sp_is_question K) [g, .ref t] H (.bl true) := sv_pu fun H1 e => ⟨_, ⟨g, t, rfl, ex_t e h, rfl⟩, fun x H' h => h⟩
theorem sv_chq (h : SqT K H t [.str "chordal"]) : SpV (sp_check_question K) [g, .ref t] H .non := sv_pu fun H1 e => ⟨_, ⟨g, t, rfl, ex_t e h, rfl⟩, fun x H' h => h⟩
theorem sv_cch {a : V} (h : (a = .str "no" ∧ HoleArg K H g t) ∨ (a = .str "yes" ∧ PeoArg K H g t)) : SpV (sp_check_chordal K) [g, a, .ref t] H (.bl true) := sv_pu fun H1 e => ⟨_, ⟨g, t, by
  rcases h with ⟨rfl, h⟩ | ⟨rfl, h⟩
  · exact .inl ⟨rfl, h.ex e⟩
  · exact .inr ⟨rfl, h.ex e⟩, rfl⟩, fun x H' h => h⟩
theorem sv_cpl {a : V} (h : (a = .str "no" ∧ HoleArg K H g t) ∨ (a = .str "yes" ∧ PeoArg K H g t)) : SpV (sp_check_plain K) [g, .str "chordal", a, .ref t] H (.bl true) := sv_pu fun H1 e => ⟨_, ⟨g, t, by
  rcases h with ⟨rfl, h⟩ | ⟨rfl, h⟩
  · exact .inl ⟨rfl, h.ex e⟩
  · exact .inr ⟨rfl, h.ex e⟩, rfl⟩, fun x H' h => h⟩
theorem et_eqS {a b : String} {ta tb : TE} {σ : L2.St} (ha : Ev ta σ H (.str a)) (hb : Ev tb σ H (.str b)) {c : Bool} (hc : decide (V.str a = V.str b) = c) : EvT (tTest (tOp rEq ta tb)) σ H c := et_is (et_test (ev_op ha hb (rv_eq rfl))) hc
end
end Tr
namespace Tr
open PySem PySem.Spec PyProof.Rows L2 Evl StX
/-- sorted: pairs of ints, or ints -/
def rSrt (K : PySem.W.Frag) : List V → Hp → VK → Prop := fun vs H Q => rSortedI K vs H Q ∨ rSortedPO K vs H Q
theorem srtB {X : Cx} (K : PySem.W.Frag) (h : X.K = K := by rfl) : CallR X (.builtin "sorted") (rSrt K) := by
  subst h
  intro pins s σ H vs us Q I r h
  rcases h with h | h
  · exact cr_sortedI pins s σ H vs us Q I r h
  · exact cr_sortedPO pins s σ H vs us Q I r h
/-- pairs of ints, each a tuple of the heap -/
def PrAll (H : Hp) : List V → List (Int × Int) → Prop
  | [], [] => True
  | x :: xs, p :: ps => (∃ t, x = .ref t ∧ H t = some (.tup [.int p.1, .int p.2])) ∧ PrAll H xs ps
  | _, _ => False
section
variable {K : PySem.W.Frag} {H H' : Hp}
theorem pr_tx (e : Tx H H') : ∀ {xs : List V} {ps : List (Int × Int)}, PrAll H xs ps → PrAll H' xs ps
  | [], [], _ => trivial
  | x :: xs, p :: ps, ⟨⟨t, h1, h2⟩, h3⟩ => ⟨⟨t, h1, e _ _ h2 rfl⟩, pr_tx e h3⟩
  | [], _ :: _, h => h.elim
  | _ :: _, [], h => h.elim
theorem pr_ex (e : Ex H H') {xs : List V} {ps : List (Int × Int)} (h : PrAll H xs ps) : PrAll H' xs ps := pr_tx (Tx.of e) h
theorem pr_len : ∀ {xs : List V} {ps : List (Int × Int)}, PrAll H xs ps → xs.length = ps.length
  | [], [], _ => rfl
  | x :: xs, p :: ps, ⟨_, h3⟩ => by rw [List.length_cons, List.length_cons, pr_len h3]
  | [], _ :: _, h => h.elim
  | _ :: _, [], h => h.elim
theorem pr_dp : ∀ {xs : List V} {ps : List (Int × Int)}, PrAll H xs ps → DpAll K H xs (ps.map pD)
  | [], [], _ => .nil
  | x :: xs, p :: ps, ⟨⟨t, h1, h2⟩, h3⟩ => by
    subst h1
    exact .cons (mk_pair (st_of h2)) (pr_dp h3)
  | [], _ :: _, h => h.elim
  | _ :: _, [], h => h.elim
theorem pr_app : ∀ {xs ys : List V} {ps qs : List (Int × Int)}, PrAll H xs ps → PrAll H ys qs → PrAll H (xs ++ ys) (ps ++ qs)
  | [], ys, [], qs, _, h => h
  | x :: xs, ys, p :: ps, qs, ⟨a, h3⟩, h => ⟨a, pr_app h3 h⟩
  | [], _, _ :: _, _, h, _ => h.elim
  | _ :: _, _, [], _, h, _ => h.elim
theorem pr_at : ∀ {xs : List V} {ps : List (Int × Int)} {i : Nat} {x : V}, PrAll H xs ps → xs[i]? = some x → ∃ p t, ps[i]? = some p ∧ x = .ref t ∧ H t = some (.tup [.int p.1, .int p.2])
  | [], [], i, x, _, h => by simp at h
  | x :: xs, p :: ps, 0, y, ⟨⟨t, h1, h2⟩, h3⟩, h => by
    have : x = y := by simpa using h
    subst this
    exact ⟨p, t, rfl, h1, h2⟩
  | x :: xs, p :: ps, i + 1, y, ⟨_, h3⟩, h => by
    obtain ⟨q, t, h4, h5⟩ := pr_at h3 (i := i) (x := y) (by simpa using h)
    exact ⟨q, t, by simpa using h4, h5⟩
  | [], _ :: _, _, _, h, _ => h.elim
  | _ :: _, [], _, _, h, _ => h.elim
/-- the pair that a value stands for -/
def kOf (H : Hp) : V → Int × Int
  | .ref t => match H t with
    | some (.tup [.int a, .int b]) => (a, b)
    | _ => (0, 0)
  | _ => (0, 0)
theorem kOf_at {t : Addr} {a b : Int} (h : H t = some (.tup [.int a, .int b])) : kOf H (.ref t) = (a, b) := by
  simp only [kOf, h]
theorem pr_k : ∀ {xs : List V} {ps : List (Int × Int)}, PrAll H xs ps → (∀ x ∈ xs, ∃ t, x = .ref t ∧ H t = some (.tup [.int (kOf H x).1, .int (kOf H x).2])) ∧ xs.map (kOf H) = ps
  | [], [], _ => ⟨(fun x hx => nomatch hx), rfl⟩
  | x :: xs, p :: ps, ⟨⟨t, h1, h2⟩, h3⟩ => by
    obtain ⟨i1, i2⟩ := pr_k h3
    subst h1
    have e := kOf_at h2
    refine ⟨fun x hx => ?_, ?_⟩
    · rcases List.mem_cons.mp hx with rfl | hx
      · exact ⟨t, rfl, by rw [e]; exact h2⟩
      · exact i1 x hx
    · rw [List.map_cons, e, i2]
  | [], _ :: _, h => h.elim
  | _ :: _, [], h => h.elim
theorem pr_of : ∀ {xs : List V}, (∀ x ∈ xs, ∃ t, x = .ref t ∧ H t = some (.tup [.int (kOf H x).1, .int (kOf H x).2])) → PrAll H xs (xs.map (kOf H))
  | [], _ => trivial
  | x :: xs, h => ⟨h x List.mem_cons_self, pr_of fun y hy => h y (List.mem_cons_of_mem _ hy)⟩
end
/-! ### the law's own searches -/
def NewP (H : Hp) (R : List (Int × Int) → Prop) : V → Hp → Prop := fun x H' => ∃ p xs rs, x = .ref p ∧ H p = none ∧ H' p = some (.lst xs) ∧ PrAll H' xs rs ∧ R rs
def sp_law_distinct (K : PySem.W.Frag) : Sp := pu fun vs H post =>
  (∃ p, ∃ ks : List Int, vs = [.ref p] ∧ SqL K H p (ks.map V.int) ∧ ks.Nodup ∧ ks.length ≤ 400 ∧ post = fun x H' => ∃ q, ∃ rs : List Int, x = .ref q ∧ H q = none ∧ H' q = some (.lst (rs.map V.int)) ∧ rs.length = ks.length) ∨
  (∃ p xs, ∃ ps : List (Int × Int), vs = [.ref p] ∧ SqL K H p xs ∧ PrAll H xs ps ∧ ps.length ≤ 400 ∧ post = NewP H fun rs => rs.length ≤ ps.length ∧ ∀ r ∈ rs, r ∈ ps)
def mmP (p : Int × Int) : Int × Int := (mn p.1 p.2, mx p.1 p.2)
/-- a graph of these rows -/
def GrP (K : PySem.W.Frag) (n : Int) (R : List (Int × Int) → Prop) : V → Hp → Prop := fun x H' => ∃ es, Gr K H' x n es ∧ R es
def sp_law_of (K : PySem.W.Frag) : Sp := pu fun vs H post => ∃ n : Int, ∃ p, ∃ ps : List (Int × Int), vs = [.int n, .ref p] ∧ (∃ xs, SqL K H p xs ∧ DpAll K H xs (ps.map pD)) ∧ ps.length ≤ 400 ∧ post = GrP K n fun es => es.length ≤ ps.length ∧ ∀ e ∈ es, ∃ p ∈ ps, e = mmP p
def sp_law_moved (K : PySem.W.Frag) : Sp := pu fun vs H post => ∃ g n es p, ∃ ks : List Int, vs = [g, .ref p] ∧ Gr K H g n es ∧ Ok n es ∧ SqL K H p (ks.map V.int) ∧ ks.Perm (rgI 0 n.toNat) ∧ post = GrP K n (Ok n)
def sp_law_other (K : PySem.W.Frag) : Sp := pu fun vs H post => ∃ g n es, vs = [g] ∧ Gr K H g n es ∧ Ok n es ∧ post = GrP K n (Ok n)
def sp_law_interval_graph (K : PySem.W.Frag) : Sp := pu fun vs H post => ∃ p xs, ∃ ps : List (Int × Int), vs = [.ref p] ∧ SqL K H p xs ∧ DpAll K H xs (ps.map pD) ∧ 1 ≤ ps.length ∧ ps.length ≤ 7 ∧ post = GrP K (ps.length : Int) (Ok (ps.length : Int))
def sp_law_turned_graph (K : PySem.W.Frag) : Sp := pu fun vs H post => ∃ p q, ∃ n : Int, ∃ ks js : List Int, vs = [.ref p, .ref q] ∧ 1 ≤ n ∧ n ≤ 7 ∧ SqL K H p (ks.map V.int) ∧ SqL K H q (js.map V.int) ∧ ks.Perm (rgI 0 n.toNat) ∧ js.Perm (rgI 0 n.toNat) ∧ post = GrP K n (Ok n)
def sp_law_is_row (K : PySem.W.Frag) : Sp := sp_is_vertex_tuple K
def sp_law_is_way (K : PySem.W.Frag) : Sp := sp_is_path K
def sp_law_bare (K : PySem.W.Frag) : Sp := sp_has_no_chord K
def sp_law_is_hole (K : PySem.W.Frag) : Sp := sp_is_hole K
def sp_law_ring_of (K : PySem.W.Frag) : Sp := pu fun vs H post => ∃ g n es t, ∃ ks : List Int, vs = [g, .ref t] ∧ Gr K H g n es ∧ SqT K H t (ks.map V.int) ∧ ks ≠ [] ∧ ks.length ≤ 100 ∧ post = fun x H' => ∃ q, x = .ref q ∧ SqT K H' q ((ringOf (adjB es) ks).map V.int)
def sp_law_holes (K : PySem.W.Frag) : Sp := pu fun vs H post => ∃ g n es, vs = [g] ∧ Gr K H g n es ∧ Ok n es ∧ post = fun x H' => ∃ hs : List (List Int), NewD K H (hs.map fun l => .tuple (l.map PyData.int)) x H' ∧ (NoHoleC (adj es) → hs = []) ∧ ((∃ h, HoleP (adj es) h) → hs ≠ [])
def sp_law_chordal_right (K : PySem.W.Frag) : Sp := sp_check_chordal K
section
variable {K : PySem.W.Frag} {H : Hp} {g : V} {n : Int} {es : List (Int × Int)}
/-- the rows of a graph made of pairs of rows2 -/
theorem mem_rows2 {n : Int} {p : Int × Int} : p ∈ rows2 n ↔ 0 ≤ p.1 ∧ p.1 < p.2 ∧ p.2 < n := by
  unfold rows2
  simp only [List.mem_flatMap, List.mem_map]
  constructor
  · rintro ⟨u, hu, v, hv, rfl⟩
    rw [mem_rgI] at hu hv
    simp only
    omega
  · intro ⟨h1, h2, h3⟩
    exact ⟨p.1, mem_rgI.mpr (by omega), p.2, mem_rgI.mpr (by omega), rfl⟩
theorem len_fm (l : List Int) (f : Int → List (Int × Int)) (k : Nat) (h : ∀ x ∈ l, (f x).length ≤ k) : (l.flatMap f).length ≤ l.length * k := by
  induction l with
  | nil => simp
  | cons a r ih =>
    rw [List.flatMap_cons, List.length_append, List.length_cons, Nat.add_mul]
    have h1 := h a List.mem_cons_self
    have h2 := ih fun x hx => h x (List.mem_cons_of_mem _ hx)
    omega
theorem rows2_len {n : Int} (k : Nat) (h : n ≤ k) : (rows2 n).length ≤ k * k := by
  have h1 := len_fm (rgI 0 n.toNat) (fun u => (rgI (u + 1) (n - (u + 1)).toNat).map fun v => (u, v)) k fun u hu => by
    rw [mem_rgI] at hu
    rw [List.length_map, rgI_len]
    omega
  rw [rgI_len] at h1
  refine Nat.le_trans h1 (Nat.mul_le_mul_right k (by omega))
theorem ok_sub {n : Int} {es : List (Int × Int)} (h1 : 1 ≤ n) (h7 : n ≤ 7) (hs : es.Sublist (rows2 n)) : Ok n es := by
  refine ⟨h1, h7, ?_, fun p hp => mem_rows2.mp (hs.subset hp)⟩
  have := hs.length_le
  have := rows2_len (n := n) 7 (by omega)
  omega
/-- u, v in the graph's rows -/
theorem mm_good {n : Int} {p : Int × Int} (h1 : 0 ≤ p.1 ∧ p.1 < n) (h2 : 0 ≤ p.2 ∧ p.2 < n) (hne : p.1 ≠ p.2) : 0 ≤ (mmP p).1 ∧ (mmP p).1 < (mmP p).2 ∧ (mmP p).2 < n := by
  unfold mmP mn mx
  simp only
  split <;> split <;> omega
end
end Tr
namespace Tr
open PySem PySem.Spec PyProof.Rows L2 Evl StX
section
variable {K : PySem.W.Frag} {H H' : Hp} {σ : L2.St} {te tl : TE} {g : TG} {vs : List Nat} {al : Type} {enc : al → PyData} {as : List al} {r : al → Int × Int} {τ : al → V → L2.St}
/-- [(i, j) for a in a list of data] : a list of new tuples -/
theorem en_Pr (hs : EvD K tl σ H (.list (as.map enc))) (hz : as.length ≤ 40000)
    (hg : ∀ a x H1 (R : L2.St → Hp → Prop), Dp K H1 x (enc a) → R (τ a x) H1 → g x (wipe σ vs) H1 R) (hw : ∀ a x H1, Dp K H1 x (enc a) → wipe (τ a x) vs = wipe σ vs)
    (he : ∀ a x H1, a ∈ as → Ex H H1 → Dp K H1 x (enc a) → EvU te (τ a x) H1 [.int (r a).1, .int (r a).2]) {H0 : Hp} (e : Ex H H0) {Q : VK}
    (q : ∀ p xs H2, H0 p = none → Ex H0 H2 → H2 p = some (.lst xs) → PrAll H2 xs (as.map r) → Q (.ref p) H2) : tLc (iList K tl) g tYes te vs σ H0 Q := hs H0 e _ fun v H1 e1 hv => by
  obtain ⟨p, xs, ev, hp, hxs⟩ := dp_lst hv
  subst ev
  have hl : xs.length = as.length := by
    have := dpa_len hxs
    rwa [List.length_map] at this
  refine ⟨p, rfl, ⟨xs, hp⟩, fun D hD => lc_list (xs := xs) (fun i H' => H1 D = none ∧ Ex H1 H' ∧ ∃ acc, H' D = some (.lst acc) ∧ PrAll H' acc ((as.take i).map r)) ⟨hD, Ex.new hD, [], upd_same, trivial⟩ (fun i H' _ c => ex_l c.2.1 hp) (fun i x H' hi c => ?_) fun H' c => ?_⟩
  · obtain ⟨p1, p2, acc, p3, p4⟩ := c
    obtain ⟨a, ha, hd⟩ := enc_at hxs hi
    have hd' := dp_ex p2 hd
    have hm : a ∈ as := List.mem_of_getElem? ha
    refine hg a x H' _ hd' ⟨hw a x H' hd', yes_go (iteT (he a x H' hm ((e.trans e1).trans p2) hd' H' (Ex.refl H') _ fun t H4 ht e4 h4 => ?_))⟩
    have h5 : H4 D = some (.lst acc) := e4 D _ p3
    have hl4 := pr_len p4
    have hl5 : acc.length ≤ as.length := by
      rw [hl4, List.length_map, List.length_take]
      exact Nat.min_le_right _ _
    refine ⟨acc, h5, sz_lt (by omega), p1, Ex.mut (p2.trans e4) p1, acc ++ [.ref t], upd_same, ?_⟩
    have tk : as.take (i + 1) = as.take i ++ [a] := by rw [List.take_add_one, ha]; rfl
    have tx : Tx H4 (upd H4 D (.lst (acc ++ [.ref t]))) := Tx.upd h5 rfl
    rw [tk, List.map_append]
    exact pr_app (pr_tx tx (pr_ex e4 p4)) ⟨⟨t, rfl, tx _ _ h4 rfl⟩, trivial⟩
  · obtain ⟨p1, p2, acc, p3, p4⟩ := c
    rw [hl, List.take_length] at p4
    exact q D acc H' (fresh_back e1 p1) (e1.trans p2) p3 p4
/-- a pair's first, second -/
theorem ev_p0 {x : V} {p : Int × Int} {ta : TE} (ha : Ev ta σ H x) (hx : Dp K H x (pD p)) : Ev (tOp (rIxT K) ta (tC (.int 0))) σ H (.int p.1) := by
  obtain ⟨t, rfl, ht⟩ := dp_pair hx
  exact ev_ixT (j := 0) ha ev_c ht rfl
theorem ev_p1 {x : V} {p : Int × Int} {ta : TE} (ha : Ev ta σ H x) (hx : Dp K H x (pD p)) : Ev (tOp (rIxT K) ta (tC (.int 1))) σ H (.int p.2) := by
  obtain ⟨t, rfl, ht⟩ := dp_pair hx
  exact ev_ixT (j := 1) ha ev_c ht rfl
theorem ev_minP {x : V} {p : Int × Int} {ta : TE} (ha : Ev ta σ H x) (hx : Dp K H x (pD p)) : Ev (tCB (rMinP K) (tCons ta tNil)) σ H (.int (mn p.1 p.2)) := fun H1 e Q q => ha H1 e _ fun H2 e2 => by
  obtain ⟨t, rfl, ht⟩ := dp_pair hx
  exact ⟨t, p.1, p.2, rfl, ex_t (e.trans e2) ht, q H2 e2⟩
theorem ev_maxP {x : V} {p : Int × Int} {ta : TE} (ha : Ev ta σ H x) (hx : Dp K H x (pD p)) : Ev (tCB (rMaxP K) (tCons ta tNil)) σ H (.int (mx p.1 p.2)) := fun H1 e Q q => ha H1 e _ fun H2 e2 => by
  obtain ⟨t, rfl, ht⟩ := dp_pair hx
  exact ⟨t, p.1, p.2, rfl, ex_t (e.trans e2) ht, q H2 e2⟩
/-- a new graph: the pair (n, rows) -/
theorem gr_new {H : Hp} {t e : Addr} {n : Int} {es : List (Int × Int)} {rs : List V} (h1 : SqT K H t [.int n, .ref e]) (h2 : SqT K H e rs) (h3 : DpAll K H rs (es.map pD)) : Gr K H (.ref t) n es := ⟨.tup h1 (.cons (.int n) (.cons (.tup h2 h3) .nil))⟩
/-- tuple(a list) -/
theorem go_tupL {l : Addr} {xs : List V} {Q : VK} (h : SqL K H l xs) (q : ∀ t, H t = none → Q (.ref t) (upd H t (.tup xs))) : rTupS K [.ref l] H Q := ⟨l, xs, rfl, .inl ⟨h, q⟩⟩
/-- (n, tuple(rows)) -/
theorem go_graph {l : Addr} {xs : List V} {n : Int} {es : List (Int × Int)} {Q : V → Hp → Prop} (h : SqL K H l xs) (hd : DpAll K H xs (es.map pD)) (q : ∀ t H', Ex H H' → Gr K H' (.ref t) n es → Q (.ref t) H') :
    rTupS K [.ref l] H fun x H1 => 2 ≤ sizeLine ∧ ∀ p, H1 p = none → Q (.ref p) (upd H1 p (.tup [.int n, x])) := go_tupL h fun t ht => ⟨by decide, fun p hp => by
  have e1 : Ex H (upd H t (.tup xs)) := Ex.new ht
  have e2 : Ex (upd H t (.tup xs)) (upd (upd H t (.tup xs)) p (.tup [.int n, .ref t])) := Ex.new hp
  exact q p _ (e1.trans e2) (gr_new (st_of upd_same) (st_of (e2 _ _ upd_same)) (dpa_ex (e1.trans e2) hd))⟩
end
end Tr
namespace Tr
open PySem PySem.Spec PyProof.Rows L2 Evl StX
theorem first_at {x : Int} {l : List Int} (h : x ∈ l) : ∃ j : Nat, l[j]? = some x ∧ ∀ m : Nat, m < j → l[m]? ≠ some x := by
  induction l with
  | nil => cases h
  | cons a r ih =>
    by_cases e : a = x
    · exact ⟨0, by simp [e], fun m hm => absurd hm (by omega)⟩
    · have hx : x ∈ r := by
        rcases List.mem_cons.mp h with z | z
        · exact absurd z.symm e
        · exact z
      obtain ⟨j, h1, h2⟩ := ih hx
      refine ⟨j + 1, by simpa using h1, fun m hm => ?_⟩
      match m, hm with
      | 0, _ => simpa using e
      | m + 1, hm => simpa using h2 m (by omega)
section
variable {K : PySem.W.Frag} {H H' : Hp} {σ : L2.St} {te ta tb : TE} {n : Int} {es : List (Int × Int)}
theorem int_at {ks : List Int} {i : Nat} (h : i < ks.length) : (ks.map V.int)[i]? = some (.int ks[i]) := by
  rw [List.getElem?_map, List.getElem?_eq_getElem h]
  rfl
theorem go_cons {tr : TA} {Q : List V → Hp → Prop} (h : te σ H fun x H1 => tr σ H1 fun xs H2 => Q (x :: xs) H2) : tCons te tr σ H Q := h
theorem go_cb {r : List V → Hp → VK → Prop} {ar : TA} {Q : VK} (h : ar σ H fun xs H1 => r xs H1 Q) : tCB r ar σ H Q := h
theorem go_call {sp : Sp} {ks : List V} {E : XK} {ar : TA} {Q : VK} (h : ar σ H fun xs H1 => sp (xs ++ ks) H1 Q E) : tCall sp ks E ar σ H Q := h
theorem go_tup {ar : TA} {Q : VK} (h : ar σ H fun xs H1 => xs.length ≤ sizeLine ∧ ∀ p, H1 p = none → Q (.ref p) (upd H1 p (.tup xs))) : tTup ar σ H Q := h
/-- xs[i] of ints -/
theorem ev_ixI {l : Addr} {ks : List Int} {i : Int} (ha : Ev ta σ H (.ref l)) (hb : Ev tb σ H (.int i)) (h : SqL K H l (ks.map V.int)) (h0 : 0 ≤ i) (h1 : i < ks.length) : Ev (tOp (rIxL K) ta tb) σ H (.int (ks.getD i.toNat 0)) := by
  have hj : i.toNat < ks.length := by omega
  have e : ks.getD i.toNat 0 = ks[i.toNat] := by rw [List.getD_eq_getElem?_getD, List.getElem?_eq_getElem hj, Option.getD_some]
  rw [e]
  have ei : (((i.toNat : Nat)) : Int) = i := by omega
  rw [← ei] at hb
  exact ev_ixL (j := i.toNat) ha hb h (int_at hj)
/-- xs[i] of rows -/
theorem ev_row {l : Addr} {xs : List V} {ps : List (Int × Int)} {i : Int} (ha : Ev ta σ H (.ref l)) (hb : Ev tb σ H (.int i)) (h : SqL K H l xs) (hd : DpAll K H xs (ps.map pD)) (h0 : 0 ≤ i) (h1 : i < ps.length) :
    ∃ x, Ev (tOp (rIxL K) ta tb) σ H x ∧ Dp K H x (pD (ps.getD i.toNat (0, 0))) := by
  have hj : i.toNat < ps.length := by omega
  have e : ps.getD i.toNat (0, 0) = ps[i.toNat] := by rw [List.getD_eq_getElem?_getD, List.getElem?_eq_getElem hj, Option.getD_some]
  obtain ⟨x, hx, hxd⟩ := dpa_at hd (i := i.toNat) (d := pD ps[i.toNat]) (by rw [List.getElem?_map, List.getElem?_eq_getElem hj]; rfl)
  have ei : (((i.toNat : Nat)) : Int) = i := by omega
  rw [← ei] at hb
  rw [e]
  exact ⟨x, ev_ixL (j := i.toNat) ha hb h hx, hxd⟩
theorem evd_pairs (ha : Ev ta σ H (.int n)) (h0 : 0 ≤ n) (h20 : n ≤ 20) : EvD K (tCall (sp_law_pairs K) [] C8.E0 (tCons ta tNil)) σ H (.list ((rows2 n).map pD)) := fun H1 e Q q => ha H1 e _ fun H2 e2 =>
  ⟨_, ⟨n, rfl, h0, h20, rfl⟩, fun v H3 e3 hv => by
    obtain ⟨p, xs, rfl, hp, h3, hd⟩ := hv
    exact q _ _ (e2.trans e3) (.lst (sq_of h3) hd)⟩
theorem et_niP {p : Int × Int} (ha : EvD K ta σ H (pD p)) (hb : EvD K tb σ H (.tuple (es.map pD))) : EvT (tTest (tOp (rInT K true) ta tb)) σ H (!decide (p ∈ es)) := fun H1 e Q q => ha H1 e _ fun v H2 e2 hv => hb H2 (e.trans e2) _ fun u H3 e3 hu => by
  refine ⟨pD p, es.map pD, dp_ex e3 hv, hu, sh_pair _, sh_pairsT es, !decide (p ∈ es), ?_, q H3 (e2.trans e3)⟩
  rw [any_pair]
  rfl
theorem evd_pair {i j : Int} {ti tj : TE} (hi : Ev ti σ H (.int i)) (hj : Ev tj σ H (.int j)) : EvD K (tTup (tCons ti (tCons tj tNil))) σ H (pD (i, j)) := evd_U (eu_tup (ea_cons hi (ea_cons hj ea_nil)) (by show 2 ≤ 100000; decide)) (.cons (.int _) (.cons (.int _) .nil))
/-- xs.index(k) -/
theorem ev_index {l : Addr} {ks : List Int} {k : Int} (ha : Ev ta σ H (.ref l)) (hb : Ev tb σ H (.int k)) (h : SqL K H l (ks.map V.int)) (hk : k ∈ ks) : ∃ j : Nat, Ev (tBM K "list" (rIndex K) ta (tCons tb tNil)) σ H (.int (j : Int)) := by
  obtain ⟨j, h1, h2⟩ := first_at hk
  refine ⟨j, fun H1 e Q q => ha H1 e _ fun H2 e2 => ⟨Or.inl ⟨rfl, _, ex_l (e.trans e2) h⟩, hb H2 (e.trans e2) _ fun H3 e3 => ?_⟩⟩
  refine ⟨l, ks.map V.int, .int k, j, .int k, rfl, rfl, ex_l ((e.trans e2).trans e3) h, rfl, flat_ints ks, by rw [List.getElem?_map, h1]; rfl, by show (k == k) = true; simp, fun m z hm hz => ?_, q H3 (e2.trans e3)⟩
  rw [List.getElem?_map] at hz
  cases hz2 : ks[m]? with
  | none =>
    rw [hz2] at hz
    cases hz
  | some y =>
    rw [hz2] at hz
    cases hz
    have : y ≠ k := fun e => h2 m hm (by rw [hz2, e])
    show (y == k) = false
    simpa using this
end
end Tr
namespace Tr
open PySem PySem.Spec PyProof.Rows L2 Evl StX
/-! ### the subsets -/
theorem subs_snoc (ks : List Int) (k : Int) : subs (ks ++ [k]) = subs ks ++ (subs ks).map fun one => one ++ [k] := by
  unfold subs
  rw [List.foldl_append]
  rfl
theorem mem_subs : ∀ (m : Nat) (ks l : List Int), ks.length = m → (l ∈ subs ks ↔ l.Sublist ks) := by
  intro m
  induction m with
  | zero =>
    intro ks l hl
    have : ks = [] := List.length_eq_zero_iff.mp hl
    subst this
    simp [subs]
  | succ m ih =>
    intro ks l hl
    have hne : ks ≠ [] := List.ne_nil_of_length_pos (by omega)
    have e := List.dropLast_concat_getLast hne
    rw [← e, subs_snoc, List.mem_append, List.mem_map]
    have ih2 := fun l => ih ks.dropLast l (by rw [List.length_dropLast]; omega)
    constructor
    · rintro (h | ⟨l1, h, rfl⟩)
      · exact ((ih2 l).mp h).trans (List.sublist_append_left _ _)
      · exact ((ih2 l1).mp h).append (List.Sublist.refl _)
    · intro h
      obtain ⟨l1, l2, rfl, h1, h2⟩ := List.sublist_append_iff.mp h
      cases l2 with
      | nil => exact .inl (by rw [List.append_nil]; exact (ih2 l1).mpr h1)
      | cons a r =>
        have hl2 := h2.length_le
        simp only [List.length_cons, List.length_nil] at hl2
        have : r = [] := List.length_eq_zero_iff.mp (by omega)
        subst this
        have ha : a = ks.getLast hne := by
          have := h2.subset (List.mem_cons_self)
          simpa using this
        exact .inr ⟨l1, (ih2 l1).mpr h1, by rw [ha]⟩
theorem subs_len : ∀ (m : Nat) (ks : List Int), ks.length = m → (subs ks).length = 2 ^ m := by
  intro m
  induction m with
  | zero =>
    intro ks hl
    have : ks = [] := List.length_eq_zero_iff.mp hl
    subst this
    rfl
  | succ m ih =>
    intro ks hl
    have hne : ks ≠ [] := List.ne_nil_of_length_pos (by omega)
    rw [← List.dropLast_concat_getLast hne, subs_snoc, List.length_append, List.length_map, ih ks.dropLast (by rw [List.length_dropLast]; omega)]
    omega
theorem noL_ints (l : List Int) : noL (.tuple (l.map PyData.int)) = true := by simp [noL, noLs_ints]
section
variable {K : PySem.W.Frag} {H H' : Hp} {σ : L2.St} {te ta tb : TE} {n : Int} {es : List (Int × Int)}
/-- t[i] of ints -/
theorem ev_ixTi {l : Addr} {ks : List Int} {i : Int} (ha : Ev ta σ H (.ref l)) (hb : Ev tb σ H (.int i)) (h : SqT K H l (ks.map V.int)) (h0 : 0 ≤ i) (h1 : i < ks.length) : Ev (tOp (rIxT K) ta tb) σ H (.int (ks.getD i.toNat 0)) := by
  have hj : i.toNat < ks.length := by omega
  have e : ks.getD i.toNat 0 = ks[i.toNat] := by rw [List.getD_eq_getElem?_getD, List.getElem?_eq_getElem hj, Option.getD_some]
  rw [e]
  have ei : (((i.toNat : Nat)) : Int) = i := by omega
  rw [← ei] at hb
  exact ev_ixT (j := i.toNat) ha hb h (int_at hj)
theorem getD_at {ks : List Int} {i : Nat} (h : i < ks.length) : ks.getD i 0 = ks[i] := by rw [List.getD_eq_getElem?_getD, List.getElem?_eq_getElem h, Option.getD_some]
/-- one + (k,) -/
theorem evd_snoc {l : List Int} {k : Int} (ha : EvD K ta σ H (.tuple (l.map PyData.int))) (hk : Ev tb σ H (.int k)) (hl : l.length ≤ 1000) : EvD K (tOp (rCatA K) ta (tTup (tCons tb tNil))) σ H (.tuple ((l ++ [k]).map PyData.int)) := fun H1 e Q q =>
  ha H1 e _ fun v H2 e2 hv => hk H2 (e.trans e2) _ fun H3 e3 => ⟨by show 1 ≤ sizeLine; decide, fun t ht => by
    obtain ⟨a, rfl, hx⟩ := dp_ints_ti hv
    have e4 : Ex H3 (upd H3 t (.tup [.int k])) := Ex.new ht
    refine ⟨a, t, l.map V.int, [.int k], rfl, rfl, ex_t (e3.trans e4) hx, st_of upd_same, sz_of (by rw [List.length_map]; simp; omega), (fun h0 => ?_), (fun _ h1 => nomatch h1), fun _ _ p hp => ?_⟩
    · have : l = [] := List.map_eq_nil_iff.mp h0
      subst this
      exact q _ _ ((e2.trans e3).trans e4) (dp_ints_t (ks := [k]) (st_of upd_same))
    · refine q _ _ (((e2.trans e3).trans e4).trans (Ex.new hp)) (dp_ints_t ?_)
      rw [List.map_append]
      exact st_of upd_same⟩
theorem sv_row {g : V} {t : Addr} {ks : List Int} (G : Gr K H g n es) (h : SqT K H t (ks.map V.int)) (hg : GoodT n ks) : SpV (sp_law_is_row K) [g, .ref t] H (.bl true) := sv_vtuple G h hg
theorem sv_way {g : V} {t : Addr} {ks : List Int} (G : Gr K H g n es) (h : SqT K H t (ks.map V.int)) (hg : GoodT n ks) (h0 : ks ≠ []) (ha : ∀ i (h : i + 1 < ks.length), adj es ks[i] ks[i + 1]) : SpV (sp_law_is_way K) [g, .ref t] H (.bl true) := sv_path G h hg h0 ha
theorem sv_bare {g : V} {t : Addr} (h : HoleArg K H g t) : SpV (sp_law_bare K) [g, .ref t, .bl true] H (.bl true) := sv_chord h
theorem sv_lhole {g : V} {t : Addr} (h : HoleArg K H g t) : SpV (sp_law_is_hole K) [g, .ref t] H (.bl true) := sv_ishole h
theorem len_filter0 {al : Type} {l : List al} {f : al → Bool} (h : ∀ x ∈ l, f x = false) : l.filter f = [] := List.filter_eq_nil_iff.mpr fun x hx => by rw [h x hx]; decide
end
end Tr
namespace Tr
open PySem PySem.Spec PyProof.Rows L2 Evl StX
/-! ### the law's search for holes, plain -/
def inM (n : Int) (es : List (Int × Int)) (M : List Int) (v : Int) : List Int := (nearL n es v).filter fun u => decide (u ∈ M)
def badV (n : Int) (es : List (Int × Int)) (M : List Int) : List Int := M.filter fun v => decide (((inM n es M v).length : Int) ≠ 2)
def Cand (n : Int) (es : List (Int × Int)) (M : List Int) : Prop := 3 < M.length ∧ (badV n es M).length = 0 ∧ (ringOf (adjB es) M).length = M.length
theorem rgI_nodup (lo : Int) (n : Nat) : (rgI lo n).Nodup := by
  unfold rgI
  rw [List.nodup_iff_pairwise_ne]
  refine List.pairwise_map.mpr (List.pairwise_iff_getElem.mpr fun i j hi hj hij => ?_)
  simp only [List.getElem_range]
  omega
section
variable {n : Int} {es : List (Int × Int)} {M : List Int}
theorem mem_inM (O : Ok n es) {v x : Int} : x ∈ inM n es M v ↔ x ∈ M ∧ adj es v x := by
  unfold inM nearL
  simp only [List.mem_filter, Bool.and_eq_true, decide_eq_true_eq, adjB_iff, mem_rgI]
  constructor
  · rintro ⟨⟨_, _, h⟩, hM⟩
    exact ⟨hM, adj_sym _ _ h⟩
  · rintro ⟨hM, h⟩
    have := O.range h
    refine ⟨⟨by omega, ?_, adj_sym _ _ h⟩, hM⟩
    intro z
    subst z
    exact O.irr _ h
theorem nd_inM {v : Int} : (inM n es M v).Nodup := ((rgI_nodup 0 n.toNat).filter _).filter _
theorem cand_hole (O : Ok n es) (nd : M.Nodup) (h3 : 3 < M.length) (hb : (badV n es M).length = 0) (hr : (ringOf (adjB es) M).length = M.length) : HoleP (adj es) (ringOf (adjB es) M) := by
  refine ring_two (adjB_iff es) (fun u v => adj_sym u v) O.irr nd h3 (fun v hv => ?_) hr
  have h2 : (inM n es M v).length = 2 := by
    apply Classical.byContradiction
    intro z
    have : v ∈ badV n es M := List.mem_filter.mpr ⟨hv, decide_eq_true (by omega)⟩
    rw [List.length_eq_zero_iff.mp hb] at this
    cases this
  have nd2 := nd_inM (n := n) (es := es) (M := M) (v := v)
  have mem := fun x => mem_inM (M := M) O (v := v) (x := x)
  generalize inM n es M v = L at h2 nd2 mem
  obtain ⟨a, b, rfl⟩ : ∃ a b, L = [a, b] := by
    match L, h2 with
    | [a, b], _ => exact ⟨a, b, rfl⟩
  have hab : a ≠ b := by simpa using nd2
  have ha := (mem a).mp (by simp)
  have hb := (mem b).mp (by simp)
  exact ⟨a, b, hab, ha.1, ha.2, hb.1, hb.2, fun x hx hA => by simpa using (mem x).mpr ⟨hx, hA⟩⟩
theorem hole_range (O : Ok n es) {h : List Int} (H : HoleP (adj es) h) {x : Int} (hx : x ∈ h) : 0 ≤ x ∧ x < n := by
  obtain ⟨i, hi, e⟩ := List.mem_iff_getElem.mp hx
  have hL := H.len
  have key : ∀ j, j < h.length → i ≠ j → near h.length i j → 0 ≤ x ∧ x < n := fun j hj hij hn => by
    have := (H.adj i j hi hj hij).mpr hn
    rw [e] at this
    have := O.range this
    omega
  by_cases h1 : i + 1 < h.length
  · exact key (i + 1) h1 (by omega) (by unfold near; omega)
  · exact key 0 (by omega) (by omega) (by unfold near; omega)
theorem hole_cand (O : Ok n es) {h : List Int} (H : HoleP (adj es) h) : ∃ M, M.Sublist (rgI 0 n.toNat) ∧ Cand n es M := by
  refine ⟨(rgI 0 n.toNat).filter fun x => decide (x ∈ h), List.filter_sublist, ?_⟩
  have nd : ((rgI 0 n.toNat).filter fun x => decide (x ∈ h)).Nodup := (rgI_nodup 0 n.toNat).filter _
  have mem : ∀ x, x ∈ ((rgI 0 n.toNat).filter fun x => decide (x ∈ h)) ↔ x ∈ h := fun x => by
    simp only [List.mem_filter, decide_eq_true_eq, mem_rgI]
    constructor
    · exact fun z => z.2
    · intro z
      have := hole_range O H z
      exact ⟨by omega, z⟩
  generalize ((rgI 0 n.toNat).filter fun x => decide (x ∈ h)) = M at nd mem
  have hp : M.Perm h := (List.perm_ext_iff_of_nodup nd H.nd).mpr mem
  have hL := H.len
  refine ⟨by rw [hp.length_eq]; omega, ?_, (ring_hole (adjB_iff es) H nd mem).1⟩
  rw [List.length_eq_zero_iff]
  unfold badV
  refine List.filter_eq_nil_iff.mpr fun v hv => ?_
  have := hole_deg (L := inM n es M v) O.irr H ((mem v).mp hv) nd_inM fun x => by rw [mem_inM O, mem]
  rw [this]
  decide
theorem no_hole_range (O : Ok n es) {l : List Int} (h : ∀ x ∈ l, x ∈ rgI 0 n.toNat) (nd : l.Nodup) : GoodT n l := by
  refine ⟨nd, fun k hk => by have := mem_rgI.mp (h k hk); have := O.lo; omega, ?_⟩
  have := len_of_sub nd h
  rw [rgI_len] at this
  have := O.hi
  omega
end
section
variable {K : PySem.W.Frag} {H : Hp} {σ : L2.St} {ta tb : TE} {g : V} {n : Int} {es : List (Int × Int)}
theorem evd_near {v : Int} (ha : Ev ta σ H g) (hb : Ev tb σ H (.int v)) (G : Gr K H g n es) (O : Ok n es) : EvD K (tCall (sp_law_near K) [] C8.E0 (tCons ta (tCons tb tNil))) σ H (.list ((nearL n es v).map PyData.int)) := fun H1 e Q q => ha H1 e _ fun H2 e2 => hb H2 (e.trans e2) _ fun H3 e3 =>
  ⟨_, ⟨g, n, es, v, rfl, G.ex ((e.trans e2).trans e3), O, rfl⟩, fun x H4 e4 hx => by
    obtain ⟨p, rfl, hp, h4⟩ := hx
    exact q _ _ ((e2.trans e3).trans e4) (dp_ints_l (sq_of h4))⟩
end
end Tr
namespace Tr
open PySem PySem.Spec PyProof.Rows L2 Evl StX
/-! ### drawn trees -/
def AllTr (R : PyData → List Int → Prop) : List PyData → List (List Int) → Prop
  | [], [] => True
  | d :: ds, l :: ls => R d l ∧ AllTr R ds ls
  | _, _ => False
/-- a tree of at most that many floors, its leaves from left to right -/
def TrD : Nat → PyData → List Int → Prop
  | 0, d, ls => ∃ i : Int, d = .int i ∧ ls = [i]
  | k + 1, d, ls => (∃ i : Int, d = .int i ∧ ls = [i]) ∨ ∃ s ps lss, d = .tuple (.str s :: ps) ∧ AllTr (TrD k) ps lss ∧ ls = lss.flatten
theorem allTr_mono {R S : PyData → List Int → Prop} (h : ∀ d l, R d l → S d l) : ∀ {ds : List PyData} {ls : List (List Int)}, AllTr R ds ls → AllTr S ds ls
  | [], [], _ => trivial
  | d :: ds, l :: ls, ⟨a, b⟩ => ⟨h d l a, allTr_mono h b⟩
  | [], _ :: _, h => h.elim
  | _ :: _, [], h => h.elim
theorem trD_succ : ∀ {k : Nat} {d : PyData} {ls : List Int}, TrD k d ls → TrD (k + 1) d ls
  | 0, d, ls, h => .inl h
  | k + 1, d, ls, h => by
    rcases h with h | ⟨s, ps, lss, h1, h2, h3⟩
    · exact .inl h
    · exact .inr ⟨s, ps, lss, h1, allTr_mono (fun d l => trD_succ) h2, h3⟩
theorem trD_mono {k j : Nat} (h : k ≤ j) {d : PyData} {ls : List Int} (t : TrD k d ls) : TrD j d ls := by
  induction h with
  | refl => exact t
  | step _ ih => exact trD_succ ih
theorem allTr_len {R : PyData → List Int → Prop} : ∀ {ds : List PyData} {ls : List (List Int)}, AllTr R ds ls → ds.length = ls.length
  | [], [], _ => rfl
  | d :: ds, l :: ls, ⟨a, b⟩ => by rw [List.length_cons, List.length_cons, allTr_len b]
  | [], _ :: _, h => h.elim
  | _ :: _, [], h => h.elim
theorem allTr_at {R : PyData → List Int → Prop} : ∀ {ds : List PyData} {ls : List (List Int)} {i : Nat} {d : PyData}, AllTr R ds ls → ds[i]? = some d → ∃ l, ls[i]? = some l ∧ R d l
  | [], [], i, d, _, h => by simp at h
  | d :: ds, l :: ls, 0, e, ⟨a, b⟩, h => by
    have : d = e := by simpa using h
    subst this
    exact ⟨l, rfl, a⟩
  | d :: ds, l :: ls, i + 1, e, ⟨a, b⟩, h => by
    obtain ⟨l2, h1, h2⟩ := allTr_at b (i := i) (d := e) (by simpa using h)
    exact ⟨l2, by simpa using h1, h2⟩
  | [], _ :: _, _, _, h, _ => h.elim
  | _ :: _, [], _, _, h, _ => h.elim
theorem allTr_app {R : PyData → List Int → Prop} : ∀ {ds es : List PyData} {ls ms : List (List Int)}, AllTr R ds ls → AllTr R es ms → AllTr R (ds ++ es) (ls ++ ms)
  | [], es, [], ms, _, h => h
  | d :: ds, es, l :: ls, ms, ⟨a, b⟩, h => ⟨a, allTr_app b h⟩
  | [], _, _ :: _, _, h, _ => h.elim
  | _ :: _, _, [], _, h, _ => h.elim
mutual
theorem trD_noL : ∀ {k : Nat} {d : PyData} {ls : List Int}, TrD k d ls → noL d = true
  | 0, d, ls, h => by
    obtain ⟨i, rfl, _⟩ := h
    rfl
  | k + 1, d, ls, h => by
    rcases h with ⟨i, rfl, _⟩ | ⟨s, ps, lss, rfl, h2, h3⟩
    · rfl
    · show (noL (.str s) && noLs ps) = true
      rw [allTr_noL h2]
      rfl
theorem allTr_noL : ∀ {k : Nat} {ds : List PyData} {ls : List (List Int)}, AllTr (TrD k) ds ls → noLs ds = true
  | k, [], [], _ => rfl
  | k, d :: ds, l :: ls, ⟨a, b⟩ => by
    show (noL d && noLs ds) = true
    rw [trD_noL a, allTr_noL b]
    rfl
  | _, [], _ :: _, h => h.elim
  | _, _ :: _, [], h => h.elim
end
def sp_law_leavesD (K : PySem.W.Frag) : Nat → Sp
  | 0 => fun _ _ _ _ => False
  | k + 1 => pu fun vs H post => ∃ v d ls, vs = [v] ∧ Dp K H v d ∧ TrD k d ls ∧ ls.length ≤ 100 ∧ post = NewL H (ls.map V.int)
def sp_law_leaves (K : PySem.W.Frag) : Sp := sp_law_leavesD K 7
def NewG (K : PySem.W.Frag) (H : Hp) (R : List (Int × Int) → Prop) : V → Hp → Prop := fun x H' => ∃ p xs ps, x = .ref p ∧ H p = none ∧ H' p = some (.lst xs) ∧ DpAll K H' xs (ps.map pD) ∧ R ps
def GoodP (ls : List Int) (ps : List (Int × Int)) : Prop := ps.length ≤ ls.length * ls.length ∧ ∀ q ∈ ps, q.1 ∈ ls ∧ q.2 ∈ ls ∧ q.1 ≠ q.2
def sp_law_tree_pairsD (K : PySem.W.Frag) : Nat → Sp
  | 0 => fun _ _ _ _ => False
  | k + 1 => pu fun vs H post => ∃ v d ls, vs = [v] ∧ Dp K H v d ∧ TrD k d ls ∧ k ≤ 6 ∧ ls.length ≤ 20 ∧ ls.Nodup ∧ post = NewG K H (GoodP ls)
def sp_law_tree_pairs (K : PySem.W.Frag) : Sp := sp_law_tree_pairsD K 7
def rMin2 : List V → Hp → VK → Prop := fun xs H Q => ∃ i j, xs = [.int i, .int j] ∧ Q (.int (if j < i then j else i)) H
section
variable {H : Hp} {σ : L2.St} {ta tb : TE}
theorem ev_mn {i j : Int} (ha : Ev ta σ H (.int i)) (hb : Ev tb σ H (.int j)) : Ev (tCB rMin2 (tCons ta (tCons tb tNil))) σ H (.int (mn i j)) := fun H1 e Q q =>
  ha H1 e _ fun H2 e2 => hb H2 (e.trans e2) _ fun H3 e3 => ⟨i, j, rfl, q H3 (e2.trans e3)⟩
theorem ev_mx {i j : Int} (ha : Ev ta σ H (.int i)) (hb : Ev tb σ H (.int j)) : Ev (tCB rMax2 (tCons ta (tCons tb tNil))) σ H (.int (mx i j)) := ev_max2 ha hb
theorem go_leaves {K : PySem.W.Frag} {H : Hp} {x : V} {d : PyData} {ls : List Int} {Q : VK} {E : XK} (h : Dp K H x d) (t : TrD 6 d ls) (hz : ls.length ≤ 100) (q : ∀ p H', Ex H H' → H p = none → H' p = some (.lst (ls.map V.int)) → Q (.ref p) H') : sp_law_leaves K [x] H Q E := by
  show pu (fun vs H post => ∃ v d ls, vs = [v] ∧ Dp K H v d ∧ TrD 6 d ls ∧ ls.length ≤ 100 ∧ post = NewL H (ls.map V.int)) [x] H Q E
  refine ⟨_, ⟨x, d, ls, rfl, h, t, hz, rfl⟩, fun v H' e hv => ?_⟩
  obtain ⟨p, rfl, hp, hp2⟩ := hv
  exact q p H' e hp hp2
theorem go_tree_pairs {K : PySem.W.Frag} {H : Hp} {x : V} {d : PyData} {ls : List Int} {Q : VK} {E : XK} (h : Dp K H x d) (t : TrD 6 d ls) (hz : ls.length ≤ 20) (hn : ls.Nodup) (q : ∀ p xs ps H', Ex H H' → H p = none → H' p = some (.lst xs) → DpAll K H' xs (ps.map pD) → GoodP ls ps → Q (.ref p) H') : sp_law_tree_pairs K [x] H Q E := by
  show pu (fun vs H post => ∃ v d ls, vs = [v] ∧ Dp K H v d ∧ TrD 6 d ls ∧ 6 ≤ 6 ∧ ls.length ≤ 20 ∧ ls.Nodup ∧ post = NewG K H (GoodP ls)) [x] H Q E
  refine ⟨_, ⟨x, d, ls, rfl, h, t, Nat.le_refl _, hz, hn, rfl⟩, fun v H' e hv => ?_⟩
  obtain ⟨p, xs, ps, rfl, hp, hp2, hd, hg⟩ := hv
  exact q p xs ps H' e hp hp2 hd hg
theorem dpa_drop {K : PySem.W.Frag} {H : Hp} : ∀ {vs : List V} {ds : List PyData} (k : Nat), DpAll K H vs ds → DpAll K H (vs.drop k) (ds.drop k)
  | _, _, 0, h => h
  | _, _, k + 1, .nil => .nil
  | _, _, k + 1, .cons _ b => dpa_drop k b
end
end Tr
namespace Tr
open PySem PySem.Spec PyProof.Rows L2 Evl StX
/-! ### the pool of the law's draws -/
structure PoolA (K : PySem.W.Frag) (H : Hp) (p c : Addr) (ns : List Int) (i x k s : Int) : Prop where
  at_ : H p = some (.lst [.ref c, .int i, .int x, .int k, .int s])
  cells : SqL K H c (ns.map V.int)
  i0 : 0 ≤ i
  ne : c ≠ p
/-- where a pool lies -/
structure Pl where
  a : Addr
  c : Addr
  ns : List Int
def Pool (K : PySem.W.Frag) (H : Hp) (p : Pl) : Prop := ∃ i x k s, PoolA K H p.a p.c p.ns i x k s
/-- all but the pool's list is kept -/
def Px (p : Pl) (H H' : Hp) : Prop := ∀ a o, a ≠ p.a → H a = some o → H' a = some o
section
variable {K : PySem.W.Frag} {H H' H1 H2 : Hp} {p : Pl} {σ : L2.St}
theorem Px.of (e : Ex H H') : Px p H H' := fun a o _ h => e a o h
theorem Px.refl (p : Pl) (H : Hp) : Px p H H := fun a o _ h => h
theorem Px.trans (a : Px p H H1) (b : Px p H1 H2) : Px p H H2 := fun x o n h => b x o n (a x o n h)
theorem Px.ex (a : Px p H H1) (b : Ex H1 H2) : Px p H H2 := fun x o n h => b x o (a x o n h)
theorem Px.pool {o : HO} (e : Px p H H') : Px p H (upd H' p.a o) := fun a u n h => by
  rw [upd_ne n]
  exact e a u n h
theorem Px.mut {q : Addr} {o : HO} (e : Px p H H') (h : H q = none) : Px p H (upd H' q o) := fun a u n ha => by
  rw [upd_ne (ne_of_none ha h)]
  exact e a u n ha
theorem Pool.some_ (h : Pool K H p) : ∃ xs, H p.a = some (.lst xs) := by
  obtain ⟨i, x, k, s, P⟩ := h
  exact ⟨_, P.at_⟩
theorem Px.tx (h : Pool K H p) (e : Px p H H') : Tx H H' := fun a o ha i => by
  by_cases n : a = p.a
  · subst n
    obtain ⟨xs, h⟩ := h.some_
    rw [h] at ha
    cases ha
    cases i
  · exact e a o n ha
theorem px_l {a : Addr} {xs : List V} (e : Px p H H') (n : a ≠ p.a) (h : SqL K H a xs) : SqL K H' a xs := by
  rcases h with (h | ⟨o, h⟩) | h
  · exact .inl (.inl (e _ _ n h))
  · exact .inl (.inr ⟨o, e _ _ n h⟩)
  · exact .inr h
theorem px_fresh {q : Addr} (e : Px p H H') (h : H' q = none) (hp' : Pool K H' p) : H q = none := by
  by_cases n : q = p.a
  · subst n
    obtain ⟨xs, h2⟩ := hp'.some_
    rw [h2] at h
    cases h
  · cases h1 : H q with
    | none => rfl
    | some o =>
      rw [e q o n h1] at h
      cases h
theorem PoolA.ex {p c : Addr} {ns : List Int} {i x k s : Int} (h : PoolA K H p c ns i x k s) (e : Ex H H') : PoolA K H' p c ns i x k s := ⟨e _ _ h.at_, ex_l e h.cells, h.i0, h.ne⟩
theorem Pool.ex (h : Pool K H p) (e : Ex H H') : Pool K H' p := by
  obtain ⟨i, x, k, s, P⟩ := h
  exact ⟨i, x, k, s, P.ex e⟩
theorem pool_ne {q : Addr} (h : Pool K H p) (hq : H q = none) : q ≠ p.a := fun z => by
  subst z
  obtain ⟨xs, h2⟩ := h.some_
  rw [h2] at hq
  cases hq
/-- another, newer list is changed -/
theorem Pool.mut {q : Addr} {o : HO} (h0 : Pool K H p) (h : Pool K H' p) (e : Px p H H') (hq : H q = none) : Pool K (upd H' q o) p := by
  obtain ⟨_, _, _, _, P0⟩ := h0
  have hn := pool_ne ⟨_, _, _, _, P0⟩ hq
  obtain ⟨i, x, k, s, P⟩ := h
  refine ⟨i, x, k, s, ?_, px_l (Px.mut e hq) P0.ne P0.cells, P.i0, P.ne⟩
  rw [upd_ne (Ne.symm hn)]
  exact P.at_
end
def sp_law_spread (K : PySem.W.Frag) : Sp := pu fun vs H post => ∃ i : Int, vs = [.int i] ∧ post = fun x _ => ∃ j, x = .int j
def sp_law_pool (K : PySem.W.Frag) : Sp := fun vs H Q _ => ∃ a, ∃ ns : List Int, vs = [.ref a] ∧ SqL K H a (ns.map V.int) ∧ ∀ (p : Pl) H', Ex H H' → H p.a = none → Pool K H' p → Q (.ref p.a) H'
def sp_law_draw (K : PySem.W.Frag) : Sp := fun vs H Q _ => ∃ p : Pl, ∃ m : Int, vs = [.ref p.a, .int m] ∧ Pool K H p ∧ 0 < m ∧ m ≤ 1000 ∧ ∀ d H', Px p H H' → Pool K H' p → 0 ≤ d → d < m → Q (.int d) H'
def rInt1 : List V → Hp → VK → Prop := fun xs H Q => (∃ i, xs = [.int i] ∧ Q (.int i) H) ∨ ∃ k, xs = [.bl k] ∧ Q (.int (if k then 1 else 0)) H
section
variable {K : PySem.W.Frag} {H H' : Hp} {σ : L2.St} {ta tb te : TE} {p : Pl} {t : TT} {tu tz : TS} {D : Ends}
theorem ev_int {i : Int} (h : Ev ta σ H (.int i)) : Ev (tCB rInt1 (tCons ta tNil)) σ H (.int i) := fun H1 e Q q => h H1 e _ fun H2 e2 => .inl ⟨i, rfl, q H2 e2⟩
theorem ev_intB {b : Bool} (h : Ev ta σ H (.bl b)) : Ev (tCB rInt1 (tCons ta tNil)) σ H (.int (if b then 1 else 0)) := fun H1 e Q q => h H1 e _ fun H2 e2 => .inr ⟨b, rfl, q H2 e2⟩
theorem ev_mulc {i j : Int} (ha : Ev ta σ H (.int i)) (hb : Ev tb σ H (.int j)) (h : CMul i j) : Ev (tOp (rI CMul fun i j => .int (i * j)) ta tb) σ H (.int (i * j)) := ev_op ha hb (rv_I h)
theorem ev_mod {i j : Int} (ha : Ev ta σ H (.int i)) (hb : Ev tb σ H (.int j)) (h : 0 < j) : Ev (tOp (rI (fun _ j => 0 < j) fun i j => .int (i % j)) ta tb) σ H (.int (i % j)) := ev_op ha hb (rv_I h)
theorem ev_fdiv {i j : Int} (ha : Ev ta σ H (.int i)) (hb : Ev tb σ H (.int j)) (h : CDivN i j) : Ev (tOp (rI CDivN fun i j => .int (i.fdiv j)) ta tb) σ H (.int (i.fdiv j)) := ev_op ha hb (rv_I h)
theorem q_whenM {b : Bool} (Mid : L2.St → Hp → Prop) (h : EvT t σ H b) (h1 : b = true → ∀ H1, Ex H H1 → ∀ nx' : L2.St → Hp → Prop, (∀ σ' H', Mid σ' H' → nx' σ' H') → tu { D with nx := nx' } σ H1) (h2 : b = false → ∀ H1, Ex H H1 → Mid σ H1) (k : ∀ σ' H', Mid σ' H' → tz D σ' H') : tSeq (tIfS t tu tNext) tz D σ H :=
  q_when h (fun hb H1 e => h1 hb H1 e (tz D) k) (fun hb H1 e => k σ H1 (h2 hb H1 e))
theorem go_draw {m : Int} {E : XK} {Q : VK} (hp : Pool K H p) (h0 : 0 < m) (h1 : m ≤ 1000) (q : ∀ d H', Px p H H' → Pool K H' p → 0 ≤ d → d < m → Q (.int d) H') : sp_law_draw K [.ref p.a, .int m] H Q E := ⟨p, m, rfl, hp, h0, h1, q⟩
/-- draw(pool, m) where m is an expression -/
theorem go_drawE {i : Nat} {m : Int} {E : XK} {Q : VK} (hi : σ[i]? = some (some (.ref p.a))) (hm : Ev ta σ H (.int m)) (hp : Pool K H p) (h0 : 0 < m) (h1 : m ≤ 1000) (q : ∀ d H', Px p H H' → Pool K H' p → 0 ≤ d → d < m → Q (.int d) H') : tCall (sp_law_draw K) [] E (tCons (tVar i) (tCons ta tNil)) σ H Q :=
  ⟨_, hi, hm H (Ex.refl H) _ fun H1 e1 => ⟨p, m, rfl, hp.ex e1, h0, h1, fun d H' a b => q d H' ((Px.of e1).trans a) b⟩⟩
end
end Tr
namespace Tr
open PySem PySem.Spec PyProof.Rows L2 Evl StX
theorem eraseIdx_mapI {al be : Type} (f : al → be) : ∀ (l : List al) (k : Nat), (l.map f).eraseIdx k = (l.eraseIdx k).map f
  | [], _ => rfl
  | _ :: _, 0 => rfl
  | a :: l, k + 1 => by
    show f a :: (l.map f).eraseIdx k = f a :: (l.eraseIdx k).map f
    rw [eraseIdx_mapI f l k]
theorem perm_eraseI {al : Type} : ∀ (l : List al) (k : Nat) (h : k < l.length), (l[k] :: l.eraseIdx k).Perm l
  | a :: l, 0, _ => List.Perm.refl _
  | a :: l, k + 1, h => by
    have ih := perm_eraseI l k (by simpa using h)
    show (l[k]'(by simpa using h) :: a :: l.eraseIdx k).Perm (a :: l)
    exact (List.Perm.swap a _ _).trans (List.Perm.cons a ih)
/-! ### after some draws -/
structure Dr (K : PySem.W.Frag) (H : Hp) (p : Pl) (H' : Hp) : Prop where
  px : Px p H H'
  pool : Pool K H' p
section
variable {K : PySem.W.Frag} {H H' H1 H2 : Hp} {p : Pl} {σ : L2.St}
theorem Dr.refl (h : Pool K H p) : Dr K H p H := ⟨Px.refl p H, h⟩
theorem Dr.ex (d : Dr K H p H1) (e : Ex H1 H2) : Dr K H p H2 := ⟨d.px.ex e, d.pool.ex e⟩
theorem Dr.of (h : Pool K H p) (e : Ex H H1) : Dr K H p H1 := (Dr.refl h).ex e
theorem Dr.trans (a : Dr K H p H1) (b : Dr K H1 p H2) : Dr K H p H2 := ⟨a.px.trans b.px, b.pool⟩
theorem Dr.mut {q : Addr} {o : HO} (h0 : Pool K H p) (d : Dr K H p H1) (hq : H q = none) : Dr K H p (upd H1 q o) := ⟨d.px.mut hq, h0.mut d.pool d.px hq⟩
theorem Dr.fresh {q : Addr} (d : Dr K H p H1) (h : H1 q = none) : H q = none := px_fresh d.px h d.pool
theorem Dr.get {a : Addr} {o : HO} (d : Dr K H p H1) (n : a ≠ p.a) (h : H a = some o) : H1 a = some o := d.px a o n h
theorem Dr.tx (h : Pool K H p) (d : Dr K H p H1) : Tx H H1 := d.px.tx h
theorem Dr.l {a : Addr} {xs : List V} (d : Dr K H p H1) (n : a ≠ p.a) (h : SqL K H a xs) : SqL K H1 a xs := px_l d.px n h
end
def sp_law_shuffled (K : PySem.W.Frag) : Sp := fun vs H Q _ => ∃ p : Pl, ∃ l, ∃ ks : List Int, vs = [.ref p.a, .ref l] ∧ Pool K H p ∧ SqL K H l (ks.map V.int) ∧ ks.length ≤ 20 ∧ ∀ q (ks' : List Int) H', Dr K H p H' → H q = none → H' q = some (.lst (ks'.map V.int)) → ks'.Perm ks → Q (.ref q) H'
def sp_law_interval_rows (K : PySem.W.Frag) : Sp := fun vs H Q _ => ∃ p : Pl, ∃ n : Int, vs = [.ref p.a, .int n] ∧ Pool K H p ∧ 1 ≤ n ∧ n ≤ 7 ∧ ∀ q xs (ps : List (Int × Int)) H', Dr K H p H' → H q = none → H' q = some (.lst xs) → DpAll K H' xs (ps.map pD) → (ps.length : Int) = n → Q (.ref q) H'
def sp_grn (K : PySem.W.Frag) : Sp := fun vs H Q _ => ∃ p : Pl, ∃ n : Int, vs = [.ref p.a, .int n] ∧ Pool K H p ∧ 1 ≤ n ∧ n ≤ 7 ∧ ∀ v es H', Dr K H p H' → Gr K H' v n es → Ok n es → Q v H'
def sp_gra (K : PySem.W.Frag) : Sp := fun vs H Q _ => ∃ p : Pl, ∃ m : Int, vs = [.ref p.a, .int m] ∧ Pool K H p ∧ 1 ≤ m ∧ m ≤ 7 ∧ ∀ v n es H', Dr K H p H' → Gr K H' v n es → Ok n es → Q v H'
def sp_law_random_graph (K : PySem.W.Frag) : Sp := sp_gra K
def sp_law_graph (K : PySem.W.Frag) : Sp := sp_gra K
def sp_law_ordered_graph (K : PySem.W.Frag) : Sp := sp_grn K
def sp_law_clique_graph (K : PySem.W.Frag) : Sp := sp_grn K
def sp_law_ringed (K : PySem.W.Frag) : Sp := sp_grn K
def sp_law_drawn_tree (K : PySem.W.Frag) : Sp := fun vs H Q _ => ∃ p : Pl, ∃ l, ∃ ks : List Int, vs = [.ref p.a, .ref l] ∧ Pool K H p ∧ SqL K H l (ks.map V.int) ∧ 1 ≤ ks.length ∧ ks.length ≤ 7 ∧ ∀ v d (ls : List Int) H', Dr K H p H' → Dp K H' v d → TrD 6 d ls → ls.Perm ks → Q v H'
section
variable {K : PySem.W.Frag} {H H' : Hp} {σ : L2.St} {ta tb te tl : TE} {p : Pl} {t : TT} {g : TG} {vs : List Nat} {al : Type} {enc : al → PyData} {as : List al} {r : al → PyData} {τ : al → V → L2.St}
theorem ix_l {l : Addr} {xs : List V} {i : Int} {v : V} {Q : VK} (h : SqL K H l xs) (ha : atI xs i = some v) (q : Q v H) : rIxL K (.ref l) (.int i) H Q := ⟨l, xs, i, v, rfl, rfl, h, ha, q⟩
theorem go_lst {ar : TA} {Q : VK} (h : ar σ H fun xs H1 => xs.length ≤ sizeLine ∧ ∀ l, H1 l = none → Q (.ref l) (upd H1 l (.lst xs))) : tLst ar σ H Q := h
theorem go_nil {Q : List V → Hp → Prop} (q : Q [] H) : tNil σ H Q := q
theorem go_c {v : V} {Q : VK} (q : Q v H) : tC v σ H Q := q
theorem go_test {Q : Bool → Hp → Prop} (h : te σ H fun x H1 => ∃ b, x = .bl b ∧ Q b H1) : tTest te σ H Q := h
theorem go_var {i : Nat} {v : V} {Q : VK} (h : σ[i]? = some (some v)) (q : Q v H) : tVar i σ H Q := ⟨v, h, q⟩
theorem go_drawP {i : Nat} {m : Int} {E : XK} {Q : VK} (hi : σ[i]? = some (some (.ref p.a))) (hm : Ev ta σ H (.int m)) (hp : Pool K H p) (h0 : 0 < m) (h1 : m ≤ 1000) (q : ∀ d H', Dr K H p H' → 0 ≤ d → d < m → Q (.int d) H') : tCall (sp_law_draw K) [] E (tCons (tVar i) (tCons ta tNil)) σ H Q :=
  go_drawE hi hm hp h0 h1 fun d H' a b => q d H' ⟨a, b⟩
/-- [most, 1 + draw(most)][int(draw(3) == 0)] -/
theorem go_nn {i j : Nat} {m : Int} {Q : VK} (hi : σ[i]? = some (some (.ref p.a))) (hj : σ[j]? = some (some (.int m))) (hp : Pool K H p) (h0 : 1 ≤ m) (h1 : m ≤ 7) (q : ∀ n H', Dr K H p H' → 1 ≤ n → n ≤ m → Q (.int n) H') :
    tOp (rIxL K) (tLst (tCons (tVar j) (tCons (tOp (rI0 fun i j => .int (i + j)) (tC (.int 1)) (tCall (sp_law_draw K) [] C8.E0 (tCons (tVar i) (tCons (tVar j) tNil)))) tNil))) (tCB rInt1 (tCons (tOp rEq (tCall (sp_law_draw K) [] C8.E0 (tCons (tVar i) (tCons (tC (.int 3)) tNil))) (tC (.int 0))) tNil)) σ H Q := by
  refine go_op (go_lst (go_cons (go_var hj (go_cons (go_op (go_drawP (p := p) hi (ev_var hj) hp (by omega) (by omega) fun d H1 d1 hd0 hd1 => ⟨1, d, rfl, rfl, by show 2 ≤ sizeLine; decide, fun l hl => ?_⟩))))))
  have e2 : Ex H1 (upd H1 l (.lst [.int m, .int (1 + d)])) := Ex.new hl
  have hlp := pool_ne d1.pool hl
  refine go_cb (go_cons (go_op (go_drawP (p := p) hi ev_c (d1.pool.ex e2) (by decide) (by decide) fun b H3 d3 hb0 hb1 => ⟨rfl, .inr ⟨_, rfl, ?_⟩⟩)))
  have h3 : H3 l = some (.lst [.int m, .int (1 + d)]) := d3.get hlp upd_same
  have d13 := (d1.ex e2).trans d3
  by_cases hb : (V.int b = V.int 0)
  · rw [decide_eq_true hb]
    exact ix_l (sq_of h3) (v := .int (1 + d)) rfl (q _ _ d13 (by omega) (by omega))
  · rw [decide_eq_false hb]
    exact ix_l (sq_of h3) (v := .int m) rfl (q _ _ d13 (by omega) (by omega))
/-! comprehensions with a draw in the test -/
def CwD (K : PySem.W.Frag) (H : Hp) (p : Pl) (as : List al) (r : al → PyData) (D : Addr) (i : Nat) (H' : Hp) : Prop :=
  H D = none ∧ Dr K H p H' ∧ ∃ acc, ∃ sub : List al, H' D = some (.lst acc) ∧ DpAll K H' acc (sub.map r) ∧ sub.Sublist (as.take i)
theorem noLs_map (hr : ∀ a, noL (r a) = true) : ∀ l : List al, noLs (l.map r) = true
  | [] => rfl
  | x :: l => by
    show (noL (r x) && noLs (l.map r)) = true
    rw [hr, noLs_map hr l]
    rfl
theorem cwD_turn {D : Addr} {i : Nat} {σ2 : L2.St} {a : al} (h0 : Pool K H p) (hr : ∀ a, noL (r a) = true) (hz : as.length ≤ 40000) (c : CwD K H p as r D i H') (hi : as[i]? = some a)
    (ht : ∀ Q : Bool → Hp → Prop, (∀ b H2, Dr K H' p H2 → Q b H2) → t σ2 H' Q) (he : ∀ H2, Dr K H' p H2 → EvD K te σ2 H2 (r a)) :
    t σ2 H' fun b H3 => if b = true then te σ2 H3 fun y H4 => ∃ acc, H4 D = some (.lst acc) ∧ acc.length < sizeLine ∧ CwD K H p as r D (i + 1) (upd H4 D (.lst (acc ++ [y]))) else CwD K H p as r D (i + 1) H3 := by
  obtain ⟨p1, p2, acc, sub, p3, p4, p5⟩ := c
  have hDp := pool_ne h0 p1
  have tk : as.take (i + 1) = as.take i ++ [a] := by rw [List.take_add_one, hi]; rfl
  refine ht _ fun b H3 d3 => ?_
  have h3 := d3.get hDp p3
  have q4 := dpa_tx (d3.tx p2.pool) (noLs_map hr sub) p4
  cases b with
  | true =>
    show te σ2 H3 fun y H4 => ∃ acc, H4 D = some (.lst acc) ∧ acc.length < sizeLine ∧ CwD K H p as r D (i + 1) (upd H4 D (.lst (acc ++ [y])))
    refine he H3 d3 H3 (Ex.refl H3) _ fun y H4 e4 hy => ?_
    have h4 : H4 D = some (.lst acc) := e4 D _ h3
    have hl := dpa_len p4
    have hs := p5.length_le
    rw [List.length_map] at hl
    rw [List.length_take] at hs
    refine ⟨acc, h4, sz_lt (by omega), p1, ((p2.trans d3).ex e4).mut h0 p1, acc ++ [y], sub ++ [a], upd_same, ?_, by rw [tk]; exact p5.append (List.Sublist.refl _)⟩
    have tx : Tx H4 (upd H4 D (.lst (acc ++ [y]))) := Tx.upd h4 rfl
    rw [List.map_append]
    exact dpa_app (dpa_tx tx (noLs_map hr sub) (dpa_ex e4 q4)) (.cons (dp_tx tx (hr a) hy) .nil)
  | false =>
    show CwD K H p as r D (i + 1) H3
    refine ⟨p1, p2.trans d3, acc, sub, h3, q4, ?_⟩
    rw [tk]
    exact p5.trans (List.sublist_append_left _ _)
theorem en_DL {l : Addr} {xs : List V} {Q : VK} (h0 : Pool K H p) (hl : SqL K H l xs) (hn : l ≠ p.a) (hd : DpAll K H xs (as.map enc)) (hnl : ∀ a, noL (enc a) = true) (hr : ∀ a, noL (r a) = true) (hz : as.length ≤ 40000)
    (hg : ∀ a x H1 (R : L2.St → Hp → Prop), Dp K H1 x (enc a) → R (τ a x) H1 → g x (wipe σ vs) H1 R) (hw : ∀ a x H1, Dp K H1 x (enc a) → wipe (τ a x) vs = wipe σ vs)
    (ht : ∀ a x H1, a ∈ as → Dr K H p H1 → Dp K H1 x (enc a) → ∀ Q : Bool → Hp → Prop, (∀ b H2, Dr K H1 p H2 → Q b H2) → t (τ a x) H1 Q) (he : ∀ a x H1, a ∈ as → Dr K H p H1 → Dp K H1 x (enc a) → EvD K te (τ a x) H1 (r a))
    (q : ∀ D acc (sub : List al) H', Dr K H p H' → H D = none → H' D = some (.lst acc) → DpAll K H' acc (sub.map r) → sub.Sublist as → Q (.ref D) H') : tLc (iList K (tC (.ref l))) g t te vs σ H Q := by
  have hlen : xs.length = as.length := by
    have := dpa_len hd
    rwa [List.length_map] at this
  refine ⟨l, rfl, ⟨xs, hl⟩, fun D hD => lc_list (xs := xs) (CwD K H p as r D) ⟨hD, Dr.of h0 (Ex.new hD), [], [], upd_same, .nil, List.nil_sublist _⟩ (fun i H' _ c => c.2.1.l hn hl) (fun i x H' hi c => ?_) fun H' c => ?_⟩
  · obtain ⟨a, ha, hx⟩ := enc_at (dpa_tx (c.2.1.tx h0) (noLs_map hnl as) hd) hi
    have hm : a ∈ as := List.mem_of_getElem? ha
    exact hg a x H' _ hx ⟨hw a x H' hx, cwD_turn h0 hr hz c ha (ht a x H' hm c.2.1 hx) fun H2 d2 => he a x H2 hm (c.2.1.trans d2) (dp_tx (d2.tx c.2.1.pool) (hnl a) hx)⟩
  · obtain ⟨p1, p2, acc, sub, p3, p4, p5⟩ := c
    rw [hlen, List.take_length] at p5
    exact q D acc sub H' p2 p1 p3 p4 p5
theorem en_DR {ar : TA} {n : Int} {r : Int → PyData} {τ : Int → L2.St} {Q : VK} (h0 : Pool K H p) (hs : EvA ar σ H [.int n]) (hn : 0 ≤ n ∧ n ≤ 40000) (hr : ∀ a, noL (r a) = true)
    (hg : ∀ a H1 (R : L2.St → Hp → Prop), R (τ a) H1 → g (.int a) (wipe σ vs) H1 R) (hw : ∀ a, wipe (τ a) vs = wipe σ vs)
    (ht : ∀ a H1, 0 ≤ a → a < n → Dr K H p H1 → ∀ Q : Bool → Hp → Prop, (∀ b H2, Dr K H1 p H2 → Q b H2) → t (τ a) H1 Q) (he : ∀ a H1, 0 ≤ a → a < n → Dr K H p H1 → EvD K te (τ a) H1 (r a))
    (q : ∀ D acc (sub : List Int) H', Dr K H p H' → H D = none → H' D = some (.lst acc) → DpAll K H' acc (sub.map r) → sub.Sublist (rgI 0 n.toNat) → Q (.ref D) H') : tLc (iRng1 ar) g t te vs σ H Q := by
  refine hs H (Ex.refl H) _ fun H1 e1 => ⟨n, rfl, by omega, by omega, fun D hD => ?_⟩
  have hP1 := h0.ex e1
  refine lc_range (lo := 0) (n := n.toNat) (CwD K H1 p (rgI 0 n.toNat) r D) ⟨hD, Dr.of hP1 (Ex.new hD), [], [], upd_same, .nil, List.nil_sublist _⟩ (fun i H' hi c => ?_) fun H' c => ?_
  · have ha : (rgI 0 n.toNat)[i]? = some (0 + (i : Int)) := rgI_at hi
    have dd := (Dr.of h0 e1).trans c.2.1
    exact hg _ H' _ ⟨hw _, cwD_turn hP1 hr (by rw [rgI_len]; omega) c ha (ht _ H' (by omega) (by omega) dd) fun H2 d2 => he _ H2 (by omega) (by omega) (dd.trans d2)⟩
  · obtain ⟨p1, p2, acc, sub, p3, p4, p5⟩ := c
    rw [List.take_of_length_le (by rw [rgI_len]; exact Nat.le_refl _)] at p5
    exact q D acc sub H' ((Dr.of h0 e1).trans p2) (fresh_back e1 p1) p3 p4 p5
theorem lc_R1 {ar : TA} {n : Int} {Q : VK} (hs : EvA ar σ H [.int n]) (hn : 0 ≤ n ∧ n ≤ 40000)
    (k : ∀ H1 D, Ex H H1 → H1 D = none → ∃ Pv : Nat → Hp → Prop, Pv 0 (upd H1 D (.lst [])) ∧ (∀ (i : Nat) H', i < n.toNat → Pv i H' → g (.int (0 + (i : Int))) (wipe σ vs) H' fun σ2 H2 => wipe σ2 vs = wipe σ vs ∧ t σ2 H2 fun b H3 => if b = true then te σ2 H3 fun y H4 => ∃ acc, H4 D = some (.lst acc) ∧ acc.length < sizeLine ∧ Pv (i + 1) (upd H4 D (.lst (acc ++ [y]))) else Pv (i + 1) H3) ∧ (∀ H', Pv n.toNat H' → Q (.ref D) H')) : tLc (iRng1 ar) g t te vs σ H Q := by
  refine hs H (Ex.refl H) _ fun H1 e1 => ⟨n, rfl, by omega, by omega, fun D hD => ?_⟩
  obtain ⟨Pv, a, b, c⟩ := k H1 D e1 hD
  exact lc_range (lo := 0) (n := n.toNat) Pv a b c
theorem lc_src {Q : VK} (h : tl σ H fun v H1 => tLc (iList K (tC v)) g t te vs σ H1 Q) : tLc (iList K tl) g t te vs σ H Q := h
theorem seqIx {d : Int} {n : Nat} (h0 : 0 ≤ d) (h1 : d < n) : seqIndex? d n = some d.toNat := (ixN_seq (i := d) (by
  have := Evl.ixN_nat (n := n) (j := d.toNat) (by omega)
  rwa [show ((d.toNat : Nat) : Int) = d by omega] at this)).1
/-- _law_pairs(n), then what is done with its list -/
theorem go_pairs {n : Int} {Q : VK} (ha : Ev ta σ H (.int n)) (h0 : 0 ≤ n) (h20 : n ≤ 20) (q : ∀ l xs H', Ex H H' → H l = none → H' l = some (.lst xs) → DpAll K H' xs ((rows2 n).map pD) → Q (.ref l) H') : tCall (sp_law_pairs K) [] C8.E0 (tCons ta tNil) σ H Q := ha H (Ex.refl H) _ fun H2 e2 =>
  ⟨_, ⟨n, rfl, h0, h20, rfl⟩, fun v H3 e3 hv => by
    obtain ⟨p, xs, rfl, hp, h3, hd⟩ := hv
    exact q _ _ _ (e2.trans e3) (fresh_back e2 hp) h3 hd⟩
end
end Tr
namespace Tr
open PySem PySem.Spec PyProof.Rows L2 Evl StX
open C8 (Cal pe_c pe_gc)
section
variable {P : Program} {w : World} {K : PySem.W.Frag} {mg : Str → Option Value} {base : Heap}
theorem sc_is_integer : FnScope ["value"] ["value"] (defScope (top 6)) := ⟨rfl, rfl, rfl, by decide +kernel, rfl, by decide +kernel, by decide +kernel⟩
theorem ok_is_integer (D : DefAt K mg "is_integer" 6) (B : Bt mg) : Ca P w K mg base 1 "is_integer" (sp_is_integer K) := by
  refine D.mk (k := 0) sc_is_integer (fun _ _ _ _ _ _ us hl => match us, hl with | [_], _ => rfl) (fun vs H Q E h => ?_) (fun f cdv A outer s H vs Q E hr h => ?_)
  · obtain ⟨_, ⟨i, rfl, _⟩, _⟩ := h
    rfl
  · obtain ⟨_, ⟨i, rfl, rfl⟩, q⟩ := h
    have hu := hu_of hr
    have hu65 := hu65_of hr
    have sc := sc_is_integer
    refine ⟨_, (pss_one (ps_ret (pe_and (pe_callB (isiS K) (by rfl) B.isinstance_ (by decide +kernel) (pa_cons (pv 0) (pa_cons (pe_bltn (v := .ty "int") (by rfl) B.int_ (by decide +kernel) rfl) pa_nil))) (pe_one (pe_not (pe_callB (isiS K) (by rfl) B.isinstance_ (by decide +kernel) (pa_cons (pv 0) (pa_cons (pe_bltn (v := .ty "bool") (by rfl) B.bool_ (by decide +kernel) rfl) pa_nil)))))))), ?_⟩
    refine ⟨.int i, rfl, _, .ty "int", _, _, _, rfl, .ty "int", .base (.int i), kit_ty (r := true) (by decide +kernel), true, rfl, ?_⟩
    refine iteT ⟨.int i, rfl, _, .ty "bool", _, _, _, rfl, .ty "bool", .base (.int i), kit_ty (r := false) (by decide +kernel), false, rfl, ?_⟩
    exact q _ _ (Ex.refl _) rfl
theorem sc_law_is_int : FnScope ["_law_x"] ["_law_x"] (defScope (top 232)) := ⟨rfl, rfl, rfl, by decide +kernel, rfl, by decide +kernel, by decide +kernel⟩
theorem ok_law_is_int (D : DefAt K mg "_law_is_int" 232) (B : Bt mg) : Ca P w K mg base 1 "_law_is_int" (sp_law_is_int K) := by
  refine D.mk (k := 0) sc_law_is_int (fun _ _ _ _ _ _ us hl => match us, hl with | [_], _ => rfl) (fun vs H Q E h => ?_) (fun f cdv A outer s H vs Q E hr h => ?_)
  · obtain ⟨_, ⟨i, rfl, _⟩, _⟩ := h
    rfl
  · obtain ⟨_, ⟨i, rfl, rfl⟩, q⟩ := h
    have hu := hu_of hr
    have hu65 := hu65_of hr
    have sc := sc_law_is_int
    refine ⟨_, (pss_one (ps_ret (pe_and (pe_callB (isiS K) (by rfl) B.isinstance_ (by decide +kernel) (pa_cons (pv 0) (pa_cons (pe_bltn (v := .ty "int") (by rfl) B.int_ (by decide +kernel) rfl) pa_nil))) (pe_one (pe_not (pe_callB (isiS K) (by rfl) B.isinstance_ (by decide +kernel) (pa_cons (pv 0) (pa_cons (pe_bltn (v := .ty "bool") (by rfl) B.bool_ (by decide +kernel) rfl) pa_nil)))))))), ?_⟩
    refine ⟨.int i, rfl, _, .ty "int", _, _, _, rfl, .ty "int", .base (.int i), kit_ty (r := true) (by decide +kernel), true, rfl, ?_⟩
    refine iteT ⟨.int i, rfl, _, .ty "bool", _, _, _, rfl, .ty "bool", .base (.int i), kit_ty (r := false) (by decide +kernel), false, rfl, ?_⟩
    exact q _ _ (Ex.refl _) rfl
theorem sc_is_integer_tuple : FnScope ["value", "item"] ["value"] (defScope (top 7)) := ⟨rfl, rfl, rfl, by decide +kernel, rfl, by decide +kernel, by decide +kernel⟩
theorem ok_is_integer_tuple (D : DefAt K mg "is_integer_tuple" 7) (B : Bt mg) (c_is_integer : Ca P w K mg base 1 "is_integer" (sp_is_integer K)) : Ca P w K mg base 2 "is_integer_tuple" (sp_is_integer_tuple K) := by
  refine D.mk (k := 1) sc_is_integer_tuple (fun _ _ _ _ _ _ us hl => match us, hl with | [_], _ => rfl) (fun vs H Q E h => ?_) (fun f cdv A outer s H vs Q E hr h => ?_)
  · obtain ⟨_, ⟨t, ks, rfl, _⟩, _⟩ := h
    rfl
  · obtain ⟨_, ⟨t, ks, rfl, hT, hl, rfl⟩, q⟩ := h
    have hu := hu_of hr
    have hu65 := hu65_of hr
    have sc := sc_is_integer_tuple
    refine ⟨_, (pss_one (ps_ret (pe_and (pe_callB (isiS K) (by rfl) B.isinstance_ (by decide +kernel) (pa_cons (pv 0) (pa_cons (pe_bltn (v := .ty "tuple") (by rfl) B.tuple_ (by decide +kernel) rfl) pa_nil))) (pe_one (pe_callB (allS K) (by rfl) B.all_ (by decide +kernel) (pa_cons (pe_lc (own := [("item", 1)]) (by rfl) sc.nd (piT K (pv 0)) (blkOk_by (own := [("item", 1)]) (N := ["value", "item"]) (sc := defScope (top 7)) (by decide +kernel)) (fun _ _ _ _ _ => (pg_name (i := 1) sc.nd rfl (by first | exact Or.inl rfl | exact Or.inr rfl))) (fun _ _ _ _ _ => pts_nil) (fun _ _ _ _ _ => (pe_c c_is_integer hr (by decide) (by rfl) (pa_cons (pv 1) pa_nil)))) pa_nil)))))), ?_⟩
    have L := en_T (K := K) (H := H) (σ := [some (.ref t), none]) (tl := tVar 0) (te := tCall (sp_is_integer K) [] E0 (tCons (tVar 1) tNil)) (t := tYes) (g := gName 1) (vs := [1]) (enc := PyData.int) (as := ks) (f := fun _ => true) (r := fun _ => .bool true)
      (τ := fun _ x => [some (.ref t), some x]) (evd_v (ev_var rfl) (dp_ints_t hT)) (by omega) (fun _ => rfl)
      (fun a x H1 R hx hR => hR) (fun a x H1 hx => rfl) (fun a x H1 _ _ hx => et_yes) (fun a x H1 _ _ hx _ => by rw [dp_int hx]; exact evd_bl (ev_call1 (ev_var rfl) sv_int))
    refine s_ret (v := .bl true) (ev_is (ev_andV (ev_isi (b := true) (ev_var rfl) (ty_t hT) (by decide +kernel)) fun _ => ev_allN (bs := (ks.filter fun _ => true).map fun _ => true) (by rw [List.map_map]; exact L)) (by simp)) fun H1 e1 => ?_
    exact q _ _ e1 rfl
theorem sc_pair_of : FnScope ["u", "v"] ["u", "v"] (defScope (top 10)) := ⟨rfl, rfl, rfl, by decide +kernel, rfl, by decide +kernel, by decide +kernel⟩
theorem ok_pair_of (D : DefAt K mg "pair_of" 10) (B : Bt mg) : Ca P w K mg base 1 "pair_of" (sp_pair_of K) := by
  refine D.mk (k := 0) sc_pair_of (fun _ _ _ _ _ _ us hl => match us, hl with | [_, _], _ => rfl) (fun vs H Q E h => ?_) (fun f cdv A outer s H vs Q E hr h => ?_)
  · obtain ⟨_, ⟨u, v, rfl, _⟩, _⟩ := h
    rfl
  · obtain ⟨_, ⟨u, v, rfl, rfl⟩, q⟩ := h
    have hu := hu_of hr
    have hu65 := hu65_of hr
    have sc := sc_pair_of
    refine ⟨_, (pss_one (ps_ret (pe_tup (pa_cons (pe_callB (call_min2 rfl) (by rfl) B.min_ (by decide +kernel) (pa_cons (pv 0) (pa_cons (pv 1) pa_nil))) (pa_cons (pe_callB (call_max2 rfl) (by rfl) B.max_ (by decide +kernel) (pa_cons (pv 0) (pa_cons (pv 1) pa_nil))) pa_nil))))), ?_⟩
    refine ⟨_, rfl, _, rfl, u, v, rfl, _, rfl, _, rfl, u, v, rfl, by show 2 ≤ sizeLine; decide, fun p hp => ?_⟩
    exact q _ _ (Ex.new hp) (mk_pair (st_of upd_same))
theorem sc_are_neighbours : FnScope ["graph", "u", "v"] ["graph", "u", "v"] (defScope (top 12)) := ⟨rfl, rfl, rfl, by decide +kernel, rfl, by decide +kernel, by decide +kernel⟩
theorem ok_are_neighbours (D : DefAt K mg "are_neighbours" 12) (B : Bt mg) (c_pair_of : Ca P w K mg base 1 "pair_of" (sp_pair_of K)) : Ca P w K mg base 2 "are_neighbours" (sp_are_neighbours K) := by
  refine D.mk (k := 1) sc_are_neighbours (fun _ _ _ _ _ _ us hl => match us, hl with | [_, _, _], _ => rfl) (fun vs H Q E h => ?_) (fun f cdv A outer s H vs Q E hr h => ?_)
  · obtain ⟨_, ⟨g, n, es, u, v, rfl, _⟩, _⟩ := h
    rfl
  · obtain ⟨_, ⟨g, n, es, u, v, rfl, G, rfl⟩, q⟩ := h
    have hu := hu_of hr
    have hu65 := hu65_of hr
    have sc := sc_are_neighbours
    refine ⟨_, (pss_one (ps_ret (pe_cmpR (inTu K hu65) (pe_c c_pair_of hr (by decide) (by rfl) (pa_cons (pv 1) (pa_cons (pv 2) pa_nil))) (pe_ix (ixT K) (pv 0) pe_int (fun _ _ => rfl)) (by rfl)))), ?_⟩
    refine ⟨_, rfl, _, rfl, _, ⟨u, v, rfl, rfl⟩, fun x H1 e1 hx => ?_⟩
    obtain ⟨a, e, rs, rfl, h1, h2, h3⟩ := (G.ex e1).open_
    refine ⟨_, rfl, a, _, 1, _, rfl, rfl, h1, atI_nat (j := 1) rfl, pD (mn u v, mx u v), es.map pD, hx, .tup h2 h3, sh_pair _, sh_pairsT es, ?_⟩
    rw [any_pair]
    exact q _ _ e1 rfl
theorem sc_law_met : FnScope ["_law_graph_here", "_law_u", "_law_v"] ["_law_graph_here", "_law_u", "_law_v"] (defScope (top 236)) := ⟨rfl, rfl, rfl, by decide +kernel, rfl, by decide +kernel, by decide +kernel⟩
theorem ok_law_met (D : DefAt K mg "_law_met" 236) (B : Bt mg) : Ca P w K mg base 1 "_law_met" (sp_law_met K) := by
  refine D.mk (k := 0) sc_law_met (fun _ _ _ _ _ _ us hl => match us, hl with | [_, _, _], _ => rfl) (fun vs H Q E h => ?_) (fun f cdv A outer s H vs Q E hr h => ?_)
  · obtain ⟨_, ⟨g, n, es, u, v, rfl, _⟩, _⟩ := h
    rfl
  · obtain ⟨_, ⟨g, n, es, u, v, rfl, G, rfl⟩, q⟩ := h
    have hu := hu_of hr
    have hu65 := hu65_of hr
    have sc := sc_law_met
    refine ⟨_, (pss_one (ps_ret (pe_cmpR (inTu K hu65) (pe_tup (pa_cons (pe_callB (call_min2 rfl) (by rfl) B.min_ (by decide +kernel) (pa_cons (pv 1) (pa_cons (pv 2) pa_nil))) (pa_cons (pe_callB (call_max2 rfl) (by rfl) B.max_ (by decide +kernel) (pa_cons (pv 1) (pa_cons (pv 2) pa_nil))) pa_nil))) (pe_ix (ixT K) (pv 0) pe_int (fun _ _ => rfl)) (by rfl)))), ?_⟩
    refine ⟨_, rfl, _, rfl, u, v, rfl, _, rfl, _, rfl, u, v, rfl, by show 2 ≤ sizeLine; decide, fun p hp => ?_⟩
    have e1 : Ex H (upd H p (.tup [.int (mn u v), .int (mx u v)])) := Ex.new hp
    obtain ⟨a, e, rs, rfl, h1, h2, h3⟩ := (G.ex e1).open_
    refine ⟨_, rfl, a, _, 1, _, rfl, rfl, h1, atI_nat (j := 1) rfl, pD (mn u v, mx u v), es.map pD, mk_pair (st_of upd_same), .tup h2 h3, sh_pair _, sh_pairsT es, ?_⟩
    rw [any_pair]
    exact q _ _ e1 rfl
end
end Tr
namespace Tr
open PySem PySem.Spec PyProof.Rows L2 Evl StX
open C8 (Cal pe_c pe_gc)
section
variable {P : Program} {w : World} {K : PySem.W.Frag} {mg : Str → Option Value} {base : Heap}
theorem nb_ok {n : Int} {es : List (Int × Int)} {v : Int} {L : List Int} (O : Ok n es) (hp : L.Perm ((es.filter fun p => decide (p.1 = v) || decide (p.2 = v)).map fun p => p.1 + p.2 - v)) (hs : L.Pairwise (· ≤ ·)) : NbOk es v L := by
  refine ⟨hs, fun x => ?_, ?_⟩
  · rw [hp.mem_iff]
    simp only [List.mem_map, List.mem_filter, Bool.or_eq_true, decide_eq_true_eq]
    unfold adj
    constructor
    · rintro ⟨p, ⟨hm, hv⟩, rfl⟩
      have g := O.good p hm
      have e : (mn v (p.1 + p.2 - v), mx v (p.1 + p.2 - v)) = p := by
        obtain ⟨a, b⟩ := p
        simp only at g hv ⊢
        unfold mn mx
        rcases hv with hv | hv <;> subst hv <;> (congr 1 <;> split <;> omega)
      rw [e]
      exact hm
    · intro hm
      refine ⟨_, ⟨hm, ?_⟩, ?_⟩
      · unfold mn mx
        simp only
        split <;> split <;> omega
      · unfold mn mx
        simp only
        split <;> split <;> omega
  · rw [hp.length_eq, List.length_map]
    exact Nat.le_trans (List.length_filter_le _ _) O.len
theorem sc_neighbours : FnScope ["graph", "v", "u", "w"] ["graph", "v"] (defScope (top 13)) := ⟨rfl, rfl, rfl, by decide +kernel, rfl, by decide +kernel, by decide +kernel⟩
theorem ok_neighbours (D : DefAt K mg "neighbours" 13) (B : Bt mg) : Ca P w K mg base 1 "neighbours" (sp_neighbours K) := by
  refine D.mk (k := 0) sc_neighbours (fun _ _ _ _ _ _ us hl => match us, hl with | [_, _], _ => rfl) (fun vs H Q E h => ?_) (fun f cdv A outer s H vs Q E hr h => ?_)
  · obtain ⟨g, n, es, u, rfl, _⟩ := h
    rfl
  · obtain ⟨g, n, es, v, rfl, G, O, q⟩ := h
    have hu := hu_of hr
    have hu65 := hu65_of hr
    have sc := sc_neighbours
    refine ⟨_, (pss_one (ps_ret (pe_callB (srtI K) (by rfl) B.sorted_ (by decide +kernel) (pa_cons (pe_lc (own := [("u", 2), ("w", 3)]) (by rfl) sc.nd (piT K (pe_ix (ixT K) (pv 0) pe_int (fun _ _ => rfl))) (blkOk_by (own := [("u", 2), ("w", 3)]) (N := ["graph", "v", "u", "w"]) (sc := defScope (top 13)) (by decide +kernel)) (fun _ _ _ _ _ => (pgT (n := 2) K (pgs_cons (pg_name (i := 2) sc.nd rfl (by first | exact Or.inl rfl | exact Or.inr rfl)) (pgs_cons (pg_name (i := 3) sc.nd rfl (by first | exact Or.inl rfl | exact Or.inr rfl)) pgs_nil)))) (fun _ _ _ _ _ => (pts_one (PW.pt (pw_or (pt_cmpR op_eq (pv 2) (pv 1) (nomark _)) (pw_or1 (pt_cmpR op_eq (pv 3) (pv 1) (nomark _))))))) (fun _ _ _ _ _ => (pe_op op_sub (pe_op op_add (pv 2) (pv 3)) (pv 1)))) pa_nil)))), ?_⟩
    have L := en_T (K := K) (H := H) (σ := [some g, some (.int v), none, none]) (tl := tOp (rIxT K) (tVar 0) (tC (.int 1))) (g := gTup K 2 (gCons (gName 2) (gCons (gName 3) gNil))) (vs := [2, 3]) (enc := pD) (as := es)
      (te := tOp (rI0 fun i j => .int (i - j)) (tOp (rI0 fun i j => .int (i + j)) (tVar 2) (tVar 3)) (tVar 1)) (t := tOr (tTest (tOp rEq (tVar 2) (tVar 1))) (tTest (tOp rEq (tVar 3) (tVar 1))))
      (f := fun p => decide (p.1 = v) || decide (p.2 = v)) (r := fun p => .int (p.1 + p.2 - v)) (τ := fun p _ => [some g, some (.int v), some (.int p.1), some (.int p.2)]) (evd_es (ev_var rfl) G) (Nat.le_trans O.len (by decide)) (fun _ => rfl)
      (fun a x H1 R hx hR => g_pair hx hR) (fun a x H1 hx => rfl) (fun a x H1 _ _ hx => et_or (et_test (ev_eqI (ev_var rfl) (ev_var rfl))) fun _ => et_test (ev_eqI (ev_var rfl) (ev_var rfl)))
      (fun a x H1 _ _ hx _ => evd_int (ev_sub (ev_add (ev_var rfl) (ev_var rfl)) (ev_var rfl)))
    have L2 := EvN.ints (K := K) (ks := (es.filter fun p => decide (p.1 = v) || decide (p.2 = v)).map fun p => p.1 + p.2 - v) (by rw [List.map_map]; exact L)
    refine go_ret (go_cb1 (L2 H (Ex.refl H) _ fun p H2 hp e2 h2 => ?_))
    refine ⟨p, _, rfl, sq_of h2, fun ns' p' hpm hsr hp' => ?_⟩
    exact q _ p' _ (nb_ok O hpm hsr) (fresh_back e2 hp') (e2.trans (Ex.new hp')) upd_same
theorem sc_law_near : FnScope ["_law_graph_here", "_law_v", "_law_u"] ["_law_graph_here", "_law_v"] (defScope (top 237)) := ⟨rfl, rfl, rfl, by decide +kernel, rfl, by decide +kernel, by decide +kernel⟩
theorem ok_law_near (D : DefAt K mg "_law_near" 237) (B : Bt mg) (c_law_met : Ca P w K mg base 1 "_law_met" (sp_law_met K)) : Ca P w K mg base 2 "_law_near" (sp_law_near K) := by
  refine D.mk (k := 1) sc_law_near (fun _ _ _ _ _ _ us hl => match us, hl with | [_, _], _ => rfl) (fun vs H Q E h => ?_) (fun f cdv A outer s H vs Q E hr h => ?_)
  · obtain ⟨_, ⟨g, n, es, v, rfl, _⟩, _⟩ := h
    rfl
  · obtain ⟨_, ⟨g, n, es, v, rfl, G, O, rfl⟩, q⟩ := h
    have hu := hu_of hr
    have hu65 := hu65_of hr
    have sc := sc_law_near
    refine ⟨_, (pss_one (ps_ret (pe_lc (own := [("_law_u", 2)]) (by rfl) sc.nd (pi_range1 (by rfl) B.range_ (pa_cons (pe_ix (ixT K) (pv 0) pe_int (fun _ _ => rfl)) pa_nil)) (blkOk_by (own := [("_law_u", 2)]) (N := ["_law_graph_here", "_law_v", "_law_u"]) (sc := defScope (top 237)) (by decide +kernel)) (fun _ _ _ _ _ => (pg_name (i := 2) sc.nd rfl (by first | exact Or.inl rfl | exact Or.inr rfl))) (fun _ _ _ _ _ => (pts_one (PW.pt (pw_and (pt_cmpR op_ne (pv 2) (pv 1) (nomark _)) (pw_and1 (pt_val (pe_c c_law_met hr (by decide) (by rfl) (pa_cons (pv 0) (pa_cons (pv 2) (pa_cons (pv 1) pa_nil)))))))))) (fun _ _ _ _ _ => (pv 2))))), ?_⟩
    have L := en_R1 (K := K) (H := H) (σ := [some g, some (.int v), none]) (ta := tCons (tOp (rIxT K) (tVar 0) (tC (.int 0))) tNil) (g := gName 2) (vs := [2]) (n := n)
      (te := tVar 2) (t := tAnd (tTest (tOp rNe (tVar 2) (tVar 1))) (tB (tCall (sp_law_met K) [] C8.E0 (tCons (tVar 0) (tCons (tVar 2) (tCons (tVar 1) tNil))))))
      (f := fun u => decide (u ≠ v) && adjB es u v) (r := fun u => .int u) (τ := fun u => [some g, some (.int v), some (.int u)]) (ea_cons (ev_n (ev_var rfl) G) ea_nil) (by have := O.hi; omega) (fun _ => rfl)
      (fun a H1 R hR => hR) (fun a => rfl) (by have := O.lo; omega) (fun a H1 _ _ e => et_and (et_test (ev_neI (ev_var rfl) (ev_var rfl))) fun _ => et_B (ev_call3 (ev_var rfl) (ev_var rfl) (ev_var rfl) (sv_met (G.ex e))))
      (fun a H1 _ _ _ _ => evd_int (ev_var rfl))
    refine (EvN.ints (K := K) (ks := nearL n es v) L) H (Ex.refl H) _ fun p H2 hp e2 h2 => ?_
    exact q _ _ e2 ⟨p, rfl, hp, h2⟩
theorem sc_is_clique : FnScope ["graph", "members", "u", "v"] ["graph", "members"] (defScope (top 32)) := ⟨rfl, rfl, rfl, by decide +kernel, rfl, by decide +kernel, by decide +kernel⟩
theorem ok_is_clique (D : DefAt K mg "is_clique" 32) (B : Bt mg) (c_are_neighbours : Ca P w K mg base 2 "are_neighbours" (sp_are_neighbours K)) : Ca P w K mg base 3 "is_clique" (sp_is_clique K) := by
  refine D.mk (k := 2) sc_is_clique (fun _ _ _ _ _ _ us hl => match us, hl with | [_, _], _ => rfl) (fun vs H Q E h => ?_) (fun f cdv A outer s H vs Q E hr h => ?_)
  · obtain ⟨_, ⟨g, n, es, t, ks, rfl, _⟩, _⟩ := h
    rfl
  · obtain ⟨_, ⟨g, n, es, t, ks, rfl, G, hT, hl, rfl⟩, q⟩ := h
    have hu := hu_of hr
    have hu65 := hu65_of hr
    have sc := sc_is_clique
    refine ⟨_, (pss_one (ps_ret (pe_callB (allS K) (by rfl) B.all_ (by decide +kernel) (pa_cons (pe_lc2 (own := [("u", 2), ("v", 3)]) (vs1 := [3]) (by rfl) sc.nd (piT K (pv 1)) (blkOk_by (own := [("u", 2), ("v", 3)]) (N := ["graph", "members", "u", "v"]) (sc := defScope (top 32)) (by decide +kernel)) (by decide) (fun _ _ _ _ _ => (pg_name (i := 2) sc.nd rfl (by first | exact Or.inl rfl | exact Or.inr rfl))) (fun _ _ _ _ _ => pts_nil) (fun _ _ _ _ _ => (piT K (pv 1))) (fun _ _ _ _ _ => (pg_name (i := 3) sc.nd rfl (by first | exact Or.inl rfl | exact Or.inr rfl))) (fun _ _ _ _ _ => (pts_one (pt_cmpR op_lt (pv 2) (pv 3) (nomark _)))) (fun _ _ _ _ _ => (pe_c c_are_neighbours hr (by decide) (by rfl) (pa_cons (pv 0) (pa_cons (pv 2) (pa_cons (pv 3) pa_nil)))))) pa_nil)))), ?_⟩
    refine s_ret (ev_all2 (K := K) (ks := ks) (fun u v => decide (u < v)) (fun u v => adjB es u v) (ev_var rfl) hT (by omega) (fun _ => rfl) (fun _ _ => rfl) (fun u H1 _ => ev_var rfl) (fun u v H1 _ => et_test (ev_lt (ev_var rfl) (ev_var rfl)))
      (fun u v H1 e => ev_call3 (ev_var rfl) (ev_var rfl) (ev_var rfl) (sv_adj (G.ex e)))) fun H1 e1 => ?_
    exact q _ _ e1 rfl
end
end Tr
namespace Tr
open PySem PySem.Spec PyProof.Rows L2 Evl StX
open C8 (Cal pe_c pe_gc)
section
variable {P : Program} {w : World} {K : PySem.W.Frag} {mg : Str → Option Value} {base : Heap}
theorem sc_behind : FnScope ["graph", "order", "k", "near", "v"] ["graph", "order", "k"] (defScope (top 48)) := ⟨rfl, rfl, rfl, by decide +kernel, rfl, by decide +kernel, by decide +kernel⟩
theorem ok_behind (D : DefAt K mg "behind" 48) (B : Bt mg) (c_neighbours : Ca P w K mg base 1 "neighbours" (sp_neighbours K)) : Ca P w K mg base 2 "behind" (sp_behind K) := by
  refine D.mk (k := 1) sc_behind (fun _ _ _ _ _ _ us hl => match us, hl with | [_, _, _], _ => rfl) (fun vs H Q E h => ?_) (fun f cdv A outer s H vs Q E hr h => ?_)
  · obtain ⟨_, ⟨g, n, es, t, ks, k, rfl, _⟩, _⟩ := h
    rfl
  · obtain ⟨_, ⟨g, n, es, t, ks, k, rfl, G, O, hT, hl, hk, rfl⟩, q⟩ := h
    have hu := hu_of hr
    have hu65 := hu65_of hr
    have sc := sc_behind
    refine ⟨_, (pss_cons (ps_set (i := 3) sc.nd rfl (by first | exact Or.inl rfl | exact Or.inr rfl) (pe_c c_neighbours hr (by decide) (by rfl) (pa_cons (pv 0) (pa_cons (pe_ix (ixT K) (pv 1) (pv 2) (fun _ _ => rfl)) pa_nil))))
      (pss_one (ps_ret (pe_lc (own := [("v", 4)]) (by rfl) sc.nd (piT K (pe_slice (slT K) (pv 1) (po_some (pe_op op_add (pv 2) pe_int)) po_none)) (blkOk_by (own := [("v", 4)]) (N := ["graph", "order", "k", "near", "v"]) (sc := defScope (top 48)) (by decide +kernel)) (fun _ _ _ _ _ => (pg_name (i := 4) sc.nd rfl (by first | exact Or.inl rfl | exact Or.inr rfl))) (fun _ _ _ _ _ => (pts_one (pt_cmpR (inS K) (pv 4) (pv 3) (by rfl)))) (fun _ _ _ _ _ => (pv 4)))))), ?_⟩
    have hkk : (ks.map V.int)[k]? = some (.int ks[k]) := by
      rw [List.getElem?_map, List.getElem?_eq_getElem hk]
      rfl
    refine go_seqA ⟨_, rfl, _, rfl, _, rfl, t, _, _, _, rfl, rfl, hT, atI_nat hkk, g, n, es, ks[k], rfl, G, O, fun L p H1 N hp e1 h1 => ?_⟩
    have hT1 := ex_t e1 hT
    have L1 := en_T (K := K) (H := H1) (σ := [some g, some (.ref t), some (.int (k : Int)), some (.ref p), none]) (tl := tSl (rSlA K) (tVar 1) (tPart (tOp (rI0 fun i j => .int (i + j)) (tVar 2) (tC (.int 1)))) tNoPart) (g := gName 4) (vs := [4])
      (te := tVar 4) (t := tTest (tOp (rIn K false) (tVar 4) (tVar 3))) (enc := PyData.int) (as := ks.drop (k + 1)) (f := fun v => adjB es (ks.getD k 0) v) (r := fun v => .int v) (τ := fun _ x => [some g, some (.ref t), some (.int (k : Int)), some (.ref p), some x])
      (evd_U (xs := (ks.map V.int).drop (k + 1)) (eu_from (k := k + 1) (ev_var rfl) hT1 (by omega) (by rw [List.length_map]; omega) (ev_is (ev_add (i := (k : Int)) (j := 1) (ev_var rfl) ev_c) (by simp))) (by rw [← List.map_drop]; exact dpa_ints _)) (by rw [List.length_drop]; omega) (fun _ => rfl)
      (fun a x H1 R hx hR => hR) (fun a x H1 hx => rfl) (fun a x H2 _ e hx => by
        rw [dp_int hx]
        refine et_is (et_test (ev_op (ev_var rfl) (ev_var rfl) (rv_isL (sq_of (e _ _ h1)) rfl (flat_ints L)))) ?_
        rw [inV_ints, List.getD_eq_getElem?_getD, List.getElem?_eq_getElem hk, Option.getD_some, adjB]
        exact decide_eq_decide.mpr (N.mem a)) (fun a x H2 _ _ hx _ => by rw [dp_int hx]; exact evd_int (ev_var rfl))
    refine go_ret ((EvN.ints (K := K) (ks := behindL es ks k) L1) H1 (Ex.refl H1) _ fun p2 H2 hp2 e2 h2 => ?_)
    exact q _ _ (e1.trans e2) ⟨p2, rfl, fresh_back e1 hp2, h2⟩
theorem sc_is_vertex_tuple : FnScope ["graph", "value", "v"] ["graph", "value"] (defScope (top 23)) := ⟨rfl, rfl, rfl, by decide +kernel, rfl, by decide +kernel, by decide +kernel⟩
theorem ok_is_vertex_tuple (D : DefAt K mg "is_vertex_tuple" 23) (B : Bt mg) (c_is_integer_tuple : Ca P w K mg base 2 "is_integer_tuple" (sp_is_integer_tuple K)) : Ca P w K mg base 3 "is_vertex_tuple" (sp_is_vertex_tuple K) := by
  refine D.mk (k := 2) sc_is_vertex_tuple (fun _ _ _ _ _ _ us hl => match us, hl with | [_, _], _ => rfl) (fun vs H Q E h => ?_) (fun f cdv A outer s H vs Q E hr h => ?_)
  · obtain ⟨_, ⟨g, n, es, t, ks, rfl, _⟩, _⟩ := h
    rfl
  · obtain ⟨_, ⟨g, n, es, t, ks, rfl, G, hT, hg, rfl⟩, q⟩ := h
    have hu := hu_of hr
    have hu65 := hu65_of hr
    have sc := sc_is_vertex_tuple
    refine ⟨_, (pss_cons (ps_if (PW.pt (pw_or (pt_not (pt_val (pe_c c_is_integer_tuple hr (by decide) (by rfl) (pa_cons (pv 1) pa_nil)))) (pw_or1 (pt_not (pt_val (pe_callB (allS K) (by rfl) B.all_ (by decide +kernel) (pa_cons (pe_lc (own := [("v", 2)]) (by rfl) sc.nd (piT K (pv 1)) (blkOk_by (own := [("v", 2)]) (N := ["graph", "value", "v"]) (sc := defScope (top 23)) (by decide +kernel)) (fun _ _ _ _ _ => (pg_name (i := 2) sc.nd rfl (by first | exact Or.inl rfl | exact Or.inr rfl))) (fun _ _ _ _ _ => pts_nil) (fun _ _ _ _ _ => (pe_chain op_le op_lt pe_int (pv 2) (pe_ix (ixT K) (pv 0) pe_int (fun _ _ => rfl))))) pa_nil))))))) (pss_one (ps_ret pe_bl)) pss_nil)
      (pss_one (ps_ret (pe_cmpR op_eq (pe_lenSetT (by rfl) B.len_ (by rfl) B.set_ (pv 1)) (pe_callB (lenS K) (by rfl) B.len_ PySem.boot_len (pa_cons (pv 1) pa_nil)) (nomark _))))), ?_⟩
    have hl := hg.len
    have L := en_T (K := K) (H := H) (σ := [some g, some (.ref t), none]) (tl := tVar 1) (te := tChain (rI0 fun i j => .bl (decide (i ≤ j))) (rI0 fun i j => .bl (decide (i < j))) (tC (.int 0)) (tVar 2) (tOp (rIxT K) (tVar 0) (tC (.int 0)))) (t := tYes) (g := gName 2) (vs := [2]) (enc := PyData.int) (as := ks)
      (f := fun _ => true) (r := fun v => .bool (decide (0 ≤ v) && decide (v < n))) (τ := fun _ x => [some g, some (.ref t), some x]) (evd_v (ev_var rfl) (dp_ints_t hT)) (by omega) (fun _ => rfl)
      (fun a x H1 R hx hR => hR) (fun a x H1 hx => rfl) (fun a x H1 _ _ hx => et_yes) (fun a x H1 _ e hx _ => by rw [dp_int hx]; exact evd_bl (ev_chain ev_c (ev_var rfl) (ev_n (ev_var rfl) (G.ex e))))
    have T : EvT (tOr (tNot (tB (tCall (sp_is_integer_tuple K) [] C8.E0 (tCons (tVar 1) tNil)))) (tNot (tB (tCB (rAll K) (tCons (tLc (iTup K (tVar 1)) (gName 2) tYes (tChain (rI0 fun i j => .bl (decide (i ≤ j))) (rI0 fun i j => .bl (decide (i < j))) (tC (.int 0)) (tVar 2) (tOp (rIxT K) (tVar 0) (tC (.int 0)))) [2]) tNil)))))
        [some g, some (.ref t), none] H false := et_is (et_or (et_not (et_B (ev_call1 (ev_var rfl) (sv_ituple hT (by omega))))) fun _ => et_not (et_B (ev_allN (bs := (ks.filter fun _ => true).map fun v => decide (0 ≤ v) && decide (v < n)) (by rw [List.map_map]; exact L)))) (by
      rw [all_map]
      have : ((ks.filter fun _ => true).all fun v => decide (0 ≤ v) && decide (v < n)) = true := by
        rw [List.all_eq_true]
        intro v hv
        have := hg.rg v (List.mem_filter.mp hv).1
        simp [this]
      rw [this]
      rfl)
    refine q_when T (fun z => nomatch z) fun _ H1 e1 => ?_
    refine go_ret (go_op ⟨.ref t, rfl, t, ks, rfl, ex_t e1 hT, hg.nd, by omega, ?_⟩)
    refine ⟨.ref t, rfl, t, _, rfl, .inr (ex_t e1 hT), rfl, ?_⟩
    rw [List.length_map, decide_eq_true rfl]
    exact q _ _ e1 rfl
theorem sc_is_order : FnScope ["graph", "value"] ["graph", "value"] (defScope (top 25)) := ⟨rfl, rfl, rfl, by decide +kernel, rfl, by decide +kernel, by decide +kernel⟩
theorem ok_is_order (D : DefAt K mg "is_order" 25) (B : Bt mg) (c_is_vertex_tuple : Ca P w K mg base 3 "is_vertex_tuple" (sp_is_vertex_tuple K)) : Ca P w K mg base 4 "is_order" (sp_is_order K) := by
  refine D.mk (k := 3) sc_is_order (fun _ _ _ _ _ _ us hl => match us, hl with | [_, _], _ => rfl) (fun vs H Q E h => ?_) (fun f cdv A outer s H vs Q E hr h => ?_)
  · obtain ⟨_, ⟨g, n, es, t, ks, rfl, _⟩, _⟩ := h
    rfl
  · obtain ⟨_, ⟨g, n, es, t, ks, rfl, G, hT, hg, hn, rfl⟩, q⟩ := h
    have hu := hu_of hr
    have hu65 := hu65_of hr
    have sc := sc_is_order
    refine ⟨_, (pss_one (ps_ret (pe_and (pe_c c_is_vertex_tuple hr (by decide) (by rfl) (pa_cons (pv 0) (pa_cons (pv 1) pa_nil))) (pe_one (pe_cmpR op_eq (pe_callB (lenS K) (by rfl) B.len_ PySem.boot_len (pa_cons (pv 1) pa_nil)) (pe_ix (ixT K) (pv 0) pe_int (fun _ _ => rfl)) (nomark _)))))), ?_⟩
    refine s_ret (v := .bl true) (ev_is (ev_andV (ev_call2 (ev_var rfl) (ev_var rfl) (sv_vtuple G hT hg)) fun _ => ev_eqI (ev_lenT (ev_var rfl) hT) (ev_n (ev_var rfl) G)) ?_) fun H1 e1 => q _ _ e1 rfl
    rw [List.length_map, decide_eq_true hn]
    rfl
end
end Tr
namespace Tr
open PySem PySem.Spec PyProof.Rows L2 Evl StX
open C8 (Cal pe_c pe_gc)
section
variable {P : Program} {w : World} {K : PySem.W.Frag} {mg : Str → Option Value} {base : Heap}
theorem hole_next {A : Int → Int → Prop} {ks : List Int} (h : HoleP A ks) (i : Nat) (hi : i + 1 < ks.length) : A ks[i] ks[i + 1] := (h.adj i (i + 1) (by omega) hi (by omega)).mpr (by unfold near; omega)
theorem sc_is_path : FnScope ["graph", "value", "u", "v"] ["graph", "value"] (defScope (top 36)) := ⟨rfl, rfl, rfl, by decide +kernel, rfl, by decide +kernel, by decide +kernel⟩
theorem ok_is_path (D : DefAt K mg "is_path" 36) (B : Bt mg) (c_is_vertex_tuple : Ca P w K mg base 3 "is_vertex_tuple" (sp_is_vertex_tuple K)) (c_are_neighbours : Ca P w K mg base 2 "are_neighbours" (sp_are_neighbours K)) : Ca P w K mg base 4 "is_path" (sp_is_path K) := by
  refine D.mk (k := 3) sc_is_path (fun _ _ _ _ _ _ us hl => match us, hl with | [_, _], _ => rfl) (fun vs H Q E h => ?_) (fun f cdv A outer s H vs Q E hr h => ?_)
  · obtain ⟨_, ⟨g, n, es, t, ks, rfl, _⟩, _⟩ := h
    rfl
  · obtain ⟨_, ⟨g, n, es, t, ks, rfl, G, hT, hg, h0, ha, rfl⟩, q⟩ := h
    have hu := hu_of hr
    have hu65 := hu65_of hr
    have sc := sc_is_path
    refine ⟨_, (pss_cons (ps_if (PW.pt (pw_or (pt_not (pt_val (pe_c c_is_vertex_tuple hr (by decide) (by rfl) (pa_cons (pv 0) (pa_cons (pv 1) pa_nil))))) (pw_or1 (pt_cmpR op_eq (pe_callB (lenS K) (by rfl) B.len_ PySem.boot_len (pa_cons (pv 1) pa_nil)) pe_int (nomark _))))) (pss_one (ps_ret pe_bl)) pss_nil)
      (pss_one (ps_ret (pe_callB (allS K) (by rfl) B.all_ (by decide +kernel) (pa_cons (pe_lc (own := [("u", 2), ("v", 3)]) (by rfl) sc.nd (RZ.pi_zipA (by rfl) B.zip_ (pa_cons (pv 1) (pa_cons (pe_slice (slT K) (pv 1) (po_some pe_int) po_none) pa_nil))) (blkOk_by (own := [("u", 2), ("v", 3)]) (N := ["graph", "value", "u", "v"]) (sc := defScope (top 36)) (by decide +kernel)) (fun _ _ _ _ _ => (pgT (n := 2) K (pgs_cons (pg_name (i := 2) sc.nd rfl (by first | exact Or.inl rfl | exact Or.inr rfl)) (pgs_cons (pg_name (i := 3) sc.nd rfl (by first | exact Or.inl rfl | exact Or.inr rfl)) pgs_nil)))) (fun _ _ _ _ _ => pts_nil) (fun _ _ _ _ _ => (pe_c c_are_neighbours hr (by decide) (by rfl) (pa_cons (pv 0) (pa_cons (pv 2) (pa_cons (pv 3) pa_nil)))))) pa_nil))))), ?_⟩
    have hl := hg.len
    have hp : 0 < ks.length := List.length_pos_iff.mpr h0
    have L := en_Z (K := K) (H := H) (σ := [some g, some (.ref t), none, none]) (ta := tCons (tVar 1) (tCons (tSl (rSlA K) (tVar 1) (tPart (tC (.int 1))) tNoPart) tNil)) (te := tCall (sp_are_neighbours K) [] C8.E0 (tCons (tVar 0) (tCons (tVar 2) (tCons (tVar 3) tNil))))
      (ks := ks) (js := ks.drop 1) (i := 2) (j := 3) (vs := [2, 3]) (fun p => .bool (adjB es p.1 p.2)) (fun _ => rfl) (by omega)
      (fun H1 e Q q => ⟨.ref t, rfl, eu_from (k := 1) (ev_var rfl) hT (by omega) (by rw [List.length_map]; omega) ev_c H1 e _ fun p H2 hp e2 h2 => q t p H2 e2 (ex_t (e.trans e2) hT) (by rw [List.map_drop]; exact st_of h2)⟩)
      (fun p => rfl) (fun p H1 _ e => evd_bl (ev_call3 (ev_var rfl) (ev_var rfl) (ev_var rfl) (sv_adj (G.ex e))))
    refine q_when (b := false) (et_is (et_or (et_not (et_B (ev_call2 (ev_var rfl) (ev_var rfl) (sv_vtuple G hT hg)))) fun _ => et_test (ev_eqI (ev_lenT (ev_var rfl) hT) ev_c)) ?_) (fun z => nomatch z) fun _ H1 e1 => ?_
    · rw [List.length_map]
      simp [h0]
    · refine s_ret (v := .bl true) (ev_is (ev_allN (bs := (ks.zip (ks.drop 1)).map fun p => adjB es p.1 p.2) (by rw [List.map_map]; exact L.mono e1)) ?_) fun H2 e2 => q _ _ (e1.trans e2) rfl
      rw [all_map]
      congr 1
      rw [List.all_eq_true]
      intro p hpm
      obtain ⟨i, hi, e⟩ := List.mem_iff_getElem.mp hpm
      rw [List.length_zip, List.length_drop] at hi
      rw [List.getElem_zip, List.getElem_drop] at e
      subst e
      rw [adjB_iff]
      have := ha i (by omega)
      simp only [Nat.add_comm 1 i]
      exact this
theorem sc_is_cycle : FnScope ["graph", "value"] ["graph", "value"] (defScope (top 38)) := ⟨rfl, rfl, rfl, by decide +kernel, rfl, by decide +kernel, by decide +kernel⟩
theorem ok_is_cycle (D : DefAt K mg "is_cycle" 38) (B : Bt mg) (c_are_neighbours : Ca P w K mg base 2 "are_neighbours" (sp_are_neighbours K)) (c_is_path : Ca P w K mg base 4 "is_path" (sp_is_path K)) : Ca P w K mg base 5 "is_cycle" (sp_is_cycle K) := by
  refine D.mk (k := 4) sc_is_cycle (fun _ _ _ _ _ _ us hl => match us, hl with | [_, _], _ => rfl) (fun vs H Q E h => ?_) (fun f cdv A outer s H vs Q E hr h => ?_)
  · obtain ⟨_, ⟨g, t, rfl, _⟩, _⟩ := h
    rfl
  · obtain ⟨_, ⟨g, t, rfl, hA, rfl⟩, q⟩ := h
    have hu := hu_of hr
    have hu65 := hu65_of hr
    have sc := sc_is_cycle
    refine ⟨_, (pss_one (ps_ret (pe_and (pe_c c_is_path hr (by decide) (by rfl) (pa_cons (pv 0) (pa_cons (pv 1) pa_nil))) (pe_and (pe_cmpR op_gt (pe_callB (lenS K) (by rfl) B.len_ PySem.boot_len (pa_cons (pv 1) pa_nil)) pe_int (nomark _)) (pe_one (pe_c c_are_neighbours hr (by decide) (by rfl) (pa_cons (pv 0) (pa_cons (pe_ix (ixT K) (pv 1) pe_int (fun _ _ => rfl)) (pa_cons (pe_ix (ixT K) (pv 1) (pe_un un_neg pe_int) (fun _ _ => rfl)) pa_nil))))))))), ?_⟩
    obtain ⟨n, es, ks, G, hT, hg, O, HP⟩ := hA
    have hL := HP.len
    have h0 : ks ≠ [] := List.ne_nil_of_length_pos (by omega)
    have e0 : (ks.map V.int)[0]? = some (.int (ks[0]'(by omega))) := by
      rw [List.getElem?_map, List.getElem?_eq_getElem (by omega)]
      rfl
    have eL : ks.map V.int = (ks.dropLast).map V.int ++ [.int (ks[ks.length - 1]'(by omega))] := by
      rw [← List.map_singleton (f := V.int), ← List.map_append]
      congr 1
      rw [← List.getLast_eq_getElem h0, List.dropLast_concat_getLast h0]
    refine s_ret (v := .bl true) (ev_is (ev_andV (ev_call2 (ev_var rfl) (ev_var rfl) (sv_path G hT hg h0 (hole_next HP))) fun _ => ev_andV (ev_gt (ev_lenT (ev_var rfl) hT) ev_c) fun _ => ev_call3 (ev_var rfl) (ev_ixT (j := 0) (ev_var rfl) ev_c hT e0) (ev_op (ev_var rfl) (ev_un ev_c ru_neg) (rv_ixT (by rw [eL] at hT; exact hT) (atI_last _ _))) (sv_adj G)) ?_) fun H1 e1 => q _ _ e1 rfl
    have a1 : adjB es (ks[0]'(by omega)) (ks[ks.length - 1]'(by omega)) = true := by
      rw [adjB_iff]
      exact (HP.adj 0 (ks.length - 1) (by omega) (by omega) (by omega)).mpr (by unfold near; omega)
    have a2 : decide ((2 : Int) < ((ks.map V.int).length : Int)) = true := by
      rw [List.length_map]
      exact decide_eq_true (by omega)
    rw [a1, a2]
    rfl
theorem sc_has_no_chord : FnScope ["graph", "value", "closed", "last", "i", "u", "j"] ["graph", "value", "closed"] (defScope (top 72)) := ⟨rfl, rfl, rfl, by decide +kernel, rfl, by decide +kernel, by decide +kernel⟩
theorem ok_has_no_chord (D : DefAt K mg "has_no_chord" 72) (B : Bt mg) (c_are_neighbours : Ca P w K mg base 2 "are_neighbours" (sp_are_neighbours K)) : Ca P w K mg base 3 "has_no_chord" (sp_has_no_chord K) := by
  refine D.mk (k := 2) sc_has_no_chord (fun _ _ _ _ _ _ us hl => match us, hl with | [_, _, _], _ => rfl) (fun vs H Q E h => ?_) (fun f cdv A outer s H vs Q E hr h => ?_)
  · obtain ⟨_, ⟨g, t, rfl, _⟩, _⟩ := h
    rfl
  · obtain ⟨_, ⟨g, t, rfl, hA, rfl⟩, q⟩ := h
    have hu := hu_of hr
    have hu65 := hu65_of hr
    have sc := sc_has_no_chord
    refine ⟨_, (pss_cons (ps_set (i := 3) sc.nd rfl (by first | exact Or.inl rfl | exact Or.inr rfl) (pe_op op_sub (pe_callB (lenS K) (by rfl) B.len_ PySem.boot_len (pa_cons (pv 1) pa_nil)) pe_int))
      (pss_cons (ps_for PassesOwn.never rfl (pi_enumT (by rfl) B.enumerate_ (pa_cons (pv 1) pa_nil)) (pgT (n := 2) K (pgs_cons (pg_name (i := 4) sc.nd rfl (by first | exact Or.inl rfl | exact Or.inr rfl)) (pgs_cons (pg_name (i := 5) sc.nd rfl (by first | exact Or.inl rfl | exact Or.inr rfl)) pgs_nil))) (pss_one (ps_for PassesOwn.never rfl (pi_range2 (by rfl) B.range_ (pa_cons (pe_op op_add (pv 4) pe_int) (pa_cons (pe_callB (lenS K) (by rfl) B.len_ PySem.boot_len (pa_cons (pv 1) pa_nil)) pa_nil))) (pg_name (i := 6) sc.nd rfl (by first | exact Or.inl rfl | exact Or.inr rfl)) (pss_one (ps_if (PW.pt (pw_and (pt_val (pe_c c_are_neighbours hr (by decide) (by rfl) (pa_cons (pv 0) (pa_cons (pv 5) (pa_cons (pe_ix (ixT K) (pv 1) (pv 6) (fun _ _ => rfl)) pa_nil))))) (pw_and1 (pt_not (PW.pt (pw_and (pt_val (pv 2)) (pw_and (pt_cmpR op_eq (pv 4) pe_int (nomark _)) (pw_and1 (pt_cmpR op_eq (pv 6) (pv 3) (nomark _)))))))))) (pss_one (ps_ret pe_bl)) pss_nil)))))
      (pss_one (ps_ret pe_bl)))), ?_⟩
    obtain ⟨n, es, ks, G, hT, hg, O, HP⟩ := hA
    have hL := HP.len
    have hl := hg.len
    have kat : ∀ (i : Nat) (h : i < ks.length), (ks.map V.int)[i]? = some (.int ks[i]) := fun i h => by
      rw [List.getElem?_map, List.getElem?_eq_getElem h]
      rfl
    refine q_asg (v := .int ((ks.length : Int) - 1)) (ev_is (ev_sub (ev_lenT (ev_var rfl) hT) ev_c) (by rw [List.length_map])) fun H1 e1 => ?_
    refine go_seq ⟨.ref t, rfl, t, _, rfl, ex_t e1 hT, fun i m σ' H' => m = ks.length - i ∧ i ≤ ks.length ∧ Ex H H' ∧ ∃ x y z, σ' = [some g, some (.ref t), some (.bl true), some (.int ((ks.length : Int) - 1)), x, y, z], ⟨ks.length, by simp, Nat.zero_le _, e1, _, _, _, rfl⟩, ?_⟩
    rintro i m σ' H' ⟨rfl, hi, e2, x, y, z, rfl⟩
    have hT2 := ex_t e2 hT
    by_cases hlt : i < ks.length
    · refine .inr ⟨⟨_, _, hT2, kat i hlt⟩, fun σ2 H2 => Ex H H2 ∧ ∃ x y z, σ2 = [some g, some (.ref t), some (.bl true), some (.int ((ks.length : Int) - 1)), x, y, z], fun σ2 H2 hN => ⟨ks.length - (i + 1), by omega, rfl, by omega, hN⟩, fun v H3 hy => ?_⟩
      obtain ⟨T, x1, rfl, nT, rfl, fx⟩ := hy
      have ex1 : x1 = .int ks[i] := Option.some.inj ((fx _ hT2).symm.trans (kat i hlt))
      subst ex1
      refine ⟨T, _, rfl, st_of upd_same, rfl, _, _, rfl, _, _, rfl, rfl, ?_⟩
      have e3 : Ex H (upd H' T (.tup [.int (i : Nat), .int ks[i]])) := e2.trans (Ex.new nT)
      refine s_forR2 (lo := (i : Int) + 2) (n := (ks.length : Int)) (ea_cons (ev_add (ev_var rfl) ev_c) (ea_cons (ev_is (ev_lenT (ev_var rfl) (ex_t e3 hT)) (by rw [List.length_map])) ea_nil)) ⟨by omega, by omega, by omega, by omega⟩
        (fun _ σ2 H2 => Ex H H2 ∧ ∃ z, σ2 = [some g, some (.ref t), some (.bl true), some (.int ((ks.length : Int) - 1)), some (.int (i : Int)), some (.int ks[i]), z]) (fun H4 e4 => ⟨e3.trans e4, _, rfl⟩) (fun j σ2 H2 hj hP => ?_) (fun σ2 H2 hP => ?_)
      · obtain ⟨e4, z4, rfl⟩ := hP
        have hj2 : i + 2 + j < ks.length := by omega
        have ek : (ks.map V.int)[i + 2 + j]? = some (.int ks[i + 2 + j]) := kat _ hj2
        refine s_when (b := false) (et_is (et_and (et_B (ev_call3 (ev_var rfl) (ev_var rfl) (ev_op (ev_var rfl) (ev_var rfl) (rv_ixT (ex_t e4 hT) (at_of (j := i + 2 + j) (by omega) ek))) (sv_adj (G.ex e4)))) fun _ => et_not (et_and (et_B (ev_var rfl)) fun _ => et_and (et_test (ev_eqI (ev_var rfl) ev_c)) fun _ => et_test (ev_eqI (ev_var rfl) (ev_var rfl)))) ?_) (fun z => nomatch z) (fun _ H5 e5 => ⟨e4.trans e5, _, rfl⟩)
        cases hadj : adjB es ks[i] ks[i + 2 + j] with
        | false => rfl
        | true =>
          rw [adjB_iff] at hadj
          have := (HP.adj i (i + 2 + j) hlt hj2 (by omega)).mp hadj
          unfold near at this
          have h1 : (i : Int) = 0 := by omega
          have h2 : (i : Int) + 2 + (j : Int) = (ks.length : Int) - 1 := by omega
          rw [decide_eq_true h1, decide_eq_true h2]
          rfl
      · obtain ⟨e4, z4, rfl⟩ := hP
        exact ⟨e4, _, _, _, rfl⟩
    · refine .inl ⟨⟨_, hT2, by rw [List.length_map]; omega⟩, ?_⟩
      exact q _ _ e2 rfl
theorem sc_is_hole : FnScope ["graph", "value"] ["graph", "value"] (defScope (top 73)) := ⟨rfl, rfl, rfl, by decide +kernel, rfl, by decide +kernel, by decide +kernel⟩
theorem ok_is_hole (D : DefAt K mg "is_hole" 73) (B : Bt mg) (c_has_no_chord : Ca P w K mg base 3 "has_no_chord" (sp_has_no_chord K)) (c_is_cycle : Ca P w K mg base 5 "is_cycle" (sp_is_cycle K)) : Ca P w K mg base 6 "is_hole" (sp_is_hole K) := by
  refine D.mk (k := 5) sc_is_hole (fun _ _ _ _ _ _ us hl => match us, hl with | [_, _], _ => rfl) (fun vs H Q E h => ?_) (fun f cdv A outer s H vs Q E hr h => ?_)
  · obtain ⟨_, ⟨g, t, rfl, _⟩, _⟩ := h
    rfl
  · obtain ⟨_, ⟨g, t, rfl, hA, rfl⟩, q⟩ := h
    have hu := hu_of hr
    have hu65 := hu65_of hr
    have sc := sc_is_hole
    refine ⟨_, (pss_one (ps_ret (pe_and (pe_c c_is_cycle hr (by decide) (by rfl) (pa_cons (pv 0) (pa_cons (pv 1) pa_nil))) (pe_and (pe_cmpR op_gt (pe_callB (lenS K) (by rfl) B.len_ PySem.boot_len (pa_cons (pv 1) pa_nil)) pe_int (nomark _)) (pe_one (pe_c c_has_no_chord hr (by decide) (by rfl) (pa_cons (pv 0) (pa_cons (pv 1) (pa_cons pe_bl pa_nil))))))))), ?_⟩
    have hA0 := hA
    obtain ⟨n, es, ks, G, hT, hg, O, HP⟩ := hA
    have hL := HP.len
    refine s_ret (v := .bl true) (ev_is (ev_andV (ev_call2 (ev_var rfl) (ev_var rfl) (sv_cycle hA0)) fun _ => ev_andV (ev_gt (ev_lenT (ev_var rfl) hT) ev_c) fun _ => ev_call3 (ev_var rfl) (ev_var rfl) ev_c (sv_chord hA0)) ?_) fun H1 e1 => q _ _ e1 rfl
    have a2 : decide ((3 : Int) < ((ks.map V.int).length : Int)) = true := by
      rw [List.length_map]
      exact decide_eq_true (by omega)
    rw [a2]
    rfl
theorem sc_check_chordal : FnScope ["graph", "answer", "data", "k"] ["graph", "answer", "data"] (defScope (top 74)) := ⟨rfl, rfl, rfl, by decide +kernel, rfl, by decide +kernel, by decide +kernel⟩
theorem ok_check_chordal (D : DefAt K mg "check_chordal" 74) (B : Bt mg) (c_is_hole : Ca P w K mg base 6 "is_hole" (sp_is_hole K)) (c_is_order : Ca P w K mg base 4 "is_order" (sp_is_order K)) (c_is_clique : Ca P w K mg base 3 "is_clique" (sp_is_clique K)) (c_behind : Ca P w K mg base 2 "behind" (sp_behind K)) : Ca P w K mg base 7 "check_chordal" (sp_check_chordal K) := by
  refine D.mk (k := 6) sc_check_chordal (fun _ _ _ _ _ _ us hl => match us, hl with | [_, _, _], _ => rfl) (fun vs H Q E h => ?_) (fun f cdv A outer s H vs Q E hr h => ?_)
  · obtain ⟨_, ⟨g, t, h, _⟩, _⟩ := h
    rcases h with ⟨rfl, _⟩ | ⟨rfl, _⟩ <;> rfl
  · obtain ⟨_, ⟨g, t, h, rfl⟩, q⟩ := h
    have hu := hu_of hr
    have hu65 := hu65_of hr
    have sc := sc_check_chordal
    refine ⟨_, (pss_cons (ps_if (pt_cmpR op_eq (pv 1) pe_str (nomark _)) (pss_one (ps_ret (pe_c c_is_hole hr (by decide) (by rfl) (pa_cons (pv 0) (pa_cons (pv 2) pa_nil))))) pss_nil)
      (pss_cons (ps_if (pt_not (pt_val (pe_c c_is_order hr (by decide) (by rfl) (pa_cons (pv 0) (pa_cons (pv 2) pa_nil))))) (pss_one (ps_ret pe_bl)) pss_nil)
      (pss_one (ps_ret (pe_callB (allS K) (by rfl) B.all_ (by decide +kernel) (pa_cons (pe_lc (own := [("k", 3)]) (by rfl) sc.nd (pi_range1 (by rfl) B.range_ (pa_cons (pe_ix (ixT K) (pv 0) pe_int (fun _ _ => rfl)) pa_nil)) (blkOk_by (own := [("k", 3)]) (N := ["graph", "answer", "data", "k"]) (sc := defScope (top 74)) (by decide +kernel)) (fun _ _ _ _ _ => (pg_name (i := 3) sc.nd rfl (by first | exact Or.inl rfl | exact Or.inr rfl))) (fun _ _ _ _ _ => pts_nil) (fun _ _ _ _ _ => (pe_c c_is_clique hr (by decide) (by rfl) (pa_cons (pv 0) (pa_cons (pe_callTy (tupS K) (by rfl) B.tuple_ (by decide +kernel) (pa_cons (pe_callB (srtI K) (by rfl) B.sorted_ (by decide +kernel) (pa_cons (pe_c c_behind hr (by decide) (by rfl) (pa_cons (pv 0) (pa_cons (pv 2) (pa_cons (pv 3) pa_nil)))) pa_nil)) pa_nil)) pa_nil))))) pa_nil)))))), ?_⟩
    rcases h with ⟨rfl, hA⟩ | ⟨rfl, hA⟩
    · refine q_when (b := true) (et_is (et_test (ev_op (ev_var rfl) ev_c (rv_eq rfl))) (by decide)) (fun _ H1 e1 => ?_) (fun z => nomatch z)
      exact s_ret (v := .bl true) (ev_call2 (ev_var rfl) (ev_var rfl) (sv_ishole (hA.ex e1))) fun H2 e2 => q _ _ (e1.trans e2) rfl
    · refine q_when (b := false) (et_is (et_test (ev_op (ev_var rfl) ev_c (rv_eq rfl))) (by decide)) (fun z => nomatch z) (fun _ H1 e1 => ?_)
      obtain ⟨n, es, ks, G, hT, hg, O, hn, hP⟩ := hA.ex e1
      have hl := hg.len
      refine q_when (b := false) (et_is (et_not (et_B (ev_call2 (ev_var rfl) (ev_var rfl) (sv_order G hT hg hn)))) rfl) (fun z => nomatch z) (fun _ H2 e2 => ?_)
      have G2 := G.ex e2
      have hT2 := ex_t e2 hT
      have L := en_R1 (K := K) (H := H2) (σ := [some g, some (.str "yes"), some (.ref t), none]) (ta := tCons (tOp (rIxT K) (tVar 0) (tC (.int 0))) tNil) (g := gName 3) (vs := [3]) (n := n)
        (te := tCall (sp_is_clique K) [] C8.E0 (tCons (tVar 0) (tCons (tCB (rTupS K) (tCons (tCB (rSortedI K) (tCons (tCall (sp_behind K) [] C8.E0 (tCons (tVar 0) (tCons (tVar 2) (tCons (tVar 3) tNil)))) tNil)) tNil)) tNil))) (t := tYes)
        (f := fun _ => true) (r := fun _ => .bool true) (τ := fun u => [some g, some (.str "yes"), some (.ref t), some (.int u)]) (ea_cons (ev_n (ev_var rfl) G2) ea_nil) (by have := O.hi; omega) (fun _ => rfl)
        (fun a H1 R hR => hR) (fun a => rfl) (by have := O.lo; omega) (fun a H1 _ _ e => et_yes) (fun a H3 ha0 ha1 e3 _ => evd_bl fun H4 e4 Q q => by
          obtain ⟨k, rfl⟩ : ∃ k : Nat, a = (k : Int) := ⟨a.toNat, by omega⟩
          have hk : k < ks.length := by omega
          refine ⟨_, rfl, _, rfl, _, rfl, _, rfl, _, ⟨g, n, es, t, ks, k, rfl, G2.ex (e3.trans e4), O, ex_t (e3.trans e4) hT2, hl, hk, rfl⟩, fun v H5 e5 hv => ?_⟩
          obtain ⟨p, rfl, hp, h5⟩ := hv
          refine ⟨p, _, rfl, sq_of h5, fun ns p2 hpm hsr hp2 => ?_⟩
          refine ⟨p2, _, rfl, .inl ⟨sq_of upd_same, fun p3 hp3 => ?_⟩⟩
          have e6 : Ex H4 (upd (upd H5 p2 (.lst (ns.map V.int))) p3 (.tup (ns.map V.int))) := (e5.trans (Ex.new hp2)).trans (Ex.new hp3)
          have hlen : ns.length ≤ 100 := by
            rw [hpm.length_eq]
            unfold behindL
            refine Nat.le_trans (List.length_filter_le _ _) ?_
            rw [List.length_drop]
            omega
          refine ⟨_, ⟨g, n, es, p3, ns, rfl, G2.ex ((e3.trans e4).trans e6), st_of upd_same, hlen, rfl⟩, fun v H7 e7 hv => ?_⟩
          have hv2 : v = .bl (clq es ns) := hv
          have ec : clq es ns = true := by
            unfold clq
            rw [List.all_eq_true]
            intro u hu
            rw [List.all_eq_true]
            intro v hv
            rw [List.mem_filter] at hv
            rw [adjB_iff]
            have m1 := hpm.mem_iff.mp hu
            have m2 := hpm.mem_iff.mp hv.1
            unfold behindL at m1 m2
            rw [List.mem_filter, adjB_iff, List.getD_eq_getElem?_getD, List.getElem?_eq_getElem hk, Option.getD_some] at m1 m2
            refine hP k hk u m1.1 v m2.1 m1.2 m2.2 ?_
            have := of_decide_eq_true hv.2
            omega
          rw [ec] at hv2
          subst hv2
          exact q _ (e6.trans e7))
      refine s_ret (v := .bl true) (ev_is (ev_allN (bs := (((rgI 0 n.toNat).filter fun _ => true).map fun _ => true)) (by rw [List.map_map]; exact L)) (by simp)) fun H3 e3 => q _ _ ((e1.trans e2).trans e3) rfl
end
end Tr
namespace Tr
open PySem PySem.Spec PyProof.Rows L2 Evl StX
open C8 (Cal pe_c pe_gc)
section
variable {P : Program} {w : World} {K : PySem.W.Frag} {mg : Str → Option Value} {base : Heap}
theorem popAt0 (x : V) (xs : List V) : seqIndex? 0 (x :: xs).length = some 0 := by
  unfold seqIndex?
  have h : (0 : Int) < ((x :: xs).length : Int) := by
    rw [List.length_cons]
    omega
  simp
/-- the keys are vertices -/
structure SpSt (K : PySem.W.Frag) (H H' : Hp) (es : List (Int × Int)) (n : Int) (avl : List Int) (a : Int) (d wl : Addr) (ps : List (Int × Int)) (c k : Nat) : Prop where
  ex : Ex H H'
  hd : H d = none
  hw : H wl = none
  dw : d ≠ wl
  dic : H' d = some (.dK (dkv ps))
  wai : H' wl = some (.lst (((ps.map (·.1)).drop k).map V.int))
  bfs : Bfs (adj es) (fun w => w ∈ avl) a ps k
  cl : Closed (adj es) (fun w => w ∈ avl) ps c
  le : k ≤ ps.length
  rg : ∀ x ∈ ps.map (·.1), 0 ≤ x ∧ x < n
theorem SpSt.mono {H H' H2 : Hp} {es : List (Int × Int)} {n : Int} {avl : List Int} {a : Int} {d wl : Addr} {ps : List (Int × Int)} {c k : Nat} (s : SpSt K H H' es n avl a d wl ps c k) (e : Ex H' H2) : SpSt K H H2 es n avl a d wl ps c k :=
  ⟨s.ex.trans e, s.hd, s.hw, s.dw, e _ _ s.dic, e _ _ s.wai, s.bfs, s.cl, s.le, s.rg⟩
theorem SpSt.small {H H' : Hp} {es : List (Int × Int)} {n : Int} {avl : List Int} {a : Int} {d wl : Addr} {ps : List (Int × Int)} {c k : Nat} (s : SpSt K H H' es n avl a d wl ps c k) (hn : n ≤ 7) : ps.length ≤ 7 := by
  have := len_range s.bfs.nd s.rg
  rw [List.length_map] at this
  omega
theorem sc_shortest_path : FnScope ["graph", "u", "v", "avoided", "before", "waiting", "x", "w", "path"] ["graph", "u", "v", "avoided"] (defScope (top 39)) := ⟨rfl, rfl, rfl, by decide +kernel, rfl, by decide +kernel, by decide +kernel⟩
theorem ok_shortest_path (D : DefAt K mg "shortest_path" 39) (B : Bt mg) (c_neighbours : Ca P w K mg base 1 "neighbours" (sp_neighbours K)) : Ca P w K mg base 2 "shortest_path" (sp_shortest_path K) := by
  refine D.mk (k := 1) sc_shortest_path (fun _ _ _ _ _ _ us hl => match us, hl with | [_, _, _, _], _ => rfl) (fun vs H Q E h => ?_) (fun f cdv A outer s H vs Q E hr h => ?_)
  · obtain ⟨g, n, es, a, b, p, avl, rfl, _⟩ := h
    rfl
  · obtain ⟨g, n, es, a, b, p, avl, rfl, G, O, hAv, hra, q0, q1⟩ := h
    have hu := hu_of hr
    have hu65 := hu65_of hr
    have sc := sc_shortest_path
    refine ⟨_, (pss_cons (ps_set (i := 4) sc.nd rfl (by first | exact Or.inl rfl | exact Or.inr rfl) (pe_disp (pps_cons (pv 1) (pv 1) pps_nil) (by rfl) (by rfl) (fun z => by cases z) (by decide)))
      (pss_cons (ps_set (i := 5) sc.nd rfl (by first | exact Or.inl rfl | exact Or.inr rfl) (pe_lst (pa_cons (pv 1) pa_nil)))
      (pss_cons (ps_while PassesOwn.never (PW.pt (pw_and (pt_cmpR op_gt (pe_callB (lenS K) (by rfl) B.len_ PySem.boot_len (pa_cons (pv 5) pa_nil)) pe_int (nomark _)) (pw_and1 (pt_cmp (pc_dnotin hu (pv 2) (pv 4)))))) (pss_cons (ps_set (i := 6) sc.nd rfl (by first | exact Or.inl rfl | exact Or.inr rfl) (bmS K PySem.F.plainAttrs_list PySem.F.slot_list_pop PySem.F.type_list_pop mt_popAt (pv 5) (pa_cons pe_int pa_nil)))
      (pss_one (ps_for PassesOwn.never rfl (piL K (pe_c c_neighbours hr (by decide) (by rfl) (pa_cons (pv 0) (pa_cons (pv 6) pa_nil)))) (pg_name (i := 7) sc.nd rfl (by first | exact Or.inl rfl | exact Or.inr rfl)) (pss_one (ps_if (PW.pt (pw_and (pt_cmp (pc_dnotin hu (pv 7) (pv 4))) (pw_and1 (pt_cmpR (niS K) (pv 7) (pv 3) (by rfl))))) (pss_cons (ps_dput hu (pv 4) (pv 7) (pv 6) rfl)
      (pss_one (ps_expr (bmS K PySem.F.plainAttrs_list PySem.F.slot_list_append PySem.F.type_list_append mt_append (pv 5) (pa_cons (pv 7) pa_nil))))) pss_nil))))))
      (pss_cons (ps_if (pt_cmp (pc_dnotin hu (pv 2) (pv 4))) (pss_one (ps_ret pe_non)) pss_nil)
      (pss_cons (ps_set (i := 8) sc.nd rfl (by first | exact Or.inl rfl | exact Or.inr rfl) (pe_lst (pa_cons (pv 2) pa_nil)))
      (pss_cons (ps_while PassesOwn.never (pt_cmpR op_ne (pe_ix (ixL K) (pv 8) (pe_un un_neg pe_int) (fun _ _ => rfl)) (pv 1) (nomark _)) (pss_one (ps_expr (bmS K PySem.F.plainAttrs_list PySem.F.slot_list_append PySem.F.type_list_append mt_append (pv 8) (pa_cons (pe_dget hu (pv 4) (pe_ix (ixL K) (pv 8) (pe_un un_neg pe_int) (fun _ _ => rfl)) (fun _ _ => rfl)) pa_nil)))))
      (pss_cons (ps_expr (pe_bm0 PySem.F.plainAttrs_list PySem.F.slot_list_reverse PySem.F.type_list_reverse mt_reverse (pv 8)))
      (pss_one (ps_ret (pe_callTy (tupS K) (by rfl) B.tuple_ (by decide +kernel) (pa_cons (pv 8) pa_nil))))))))))), ?_⟩
    have irr := O.irr
    have sym : ∀ u v, adj es u v → adj es v u := fun u v => adj_sym u v
    -- before = {u: u}
    refine go_seqA fun d hd => ⟨_, rfl, _, rfl, upd_same, [(Sum.inl a, V.int a)], rfl, by show 1 ≤ 15; decide, ?_⟩
    rw [upd_upd]
    have e1 : Ex H (upd H d (.dK (mergeK [] [(Sum.inl a, V.int a)]))) := Ex.new hd
    -- waiting = [u]
    refine go_seqA ⟨_, rfl, by show 1 ≤ sizeLine; decide, fun wl hwl => ?_⟩
    have dwl : d ≠ wl := ne_of_none upd_same hwl
    have hwl0 : H wl = none := fresh_back e1 hwl
    have st0 : SpSt K H (upd (upd H d (.dK (mergeK [] [(Sum.inl a, V.int a)]))) wl (.lst [.int a])) es n avl a d wl [(a, a)] 0 0 :=
      ⟨e1.trans (Ex.new hwl), hd, hwl0, dwl, by rw [upd_ne dwl, upd_same]; rfl, by rw [upd_same]; rfl, Bfs.start, Closed.zero, Nat.zero_le _, by simpa using hra⟩
    -- while len(waiting) > 0 and v not in before
    refine q_while (fun m σ' H' => ∃ ps c xx ww, σ' = [some g, some (.int a), some (.int b), some (.ref p), some (.ref d), some (.ref wl), xx, ww, none] ∧ SpSt K H H' es n avl a d wl ps c c ∧ m = 8 - c) 8 ⟨[(a, a)], 0, _, _, rfl, st0, rfl⟩ ?_
    rintro m σ' H' ⟨ps, c, xx, ww, rfl, S, rfl⟩
    have hsm := S.small O.hi
    have hwlen : (((ps.map (·.1)).drop c).map V.int).length = ps.length - c := by
      rw [List.length_map, List.length_drop, List.length_map]
    refine ⟨_, et_and (et_test (ev_gt (ev_len (ev_var rfl) (sq_of S.wai)) ev_c)) fun _ => et_ndin (ev_var rfl) (ev_var rfl) S.dic, fun hb H1 e1 => ?_, fun hb H1 e1 => ?_⟩
    · -- a turn
      rw [Bool.and_eq_true] at hb
      have hlt : c < ps.length := by
        have := of_decide_eq_true hb.1
        rw [hwlen] at this
        omega
      have S1 := S.mono e1
      obtain ⟨x, hx⟩ : ∃ x, (ps.map (·.1))[c]? = some x := ⟨_, List.getElem?_eq_getElem (by rw [List.length_map]; exact hlt)⟩
      have hdrop : (ps.map (·.1)).drop c = x :: (ps.map (·.1)).drop (c + 1) := by
        have h2 : c < (ps.map (·.1)).length := by rw [List.length_map]; exact hlt
        rw [List.drop_eq_getElem_cons h2]
        rw [List.getElem?_eq_getElem h2] at hx
        rw [Option.some.inj hx]
      have hxr : 0 ≤ x ∧ x < n := S.rg x (List.mem_of_getElem? hx)
      refine ⟨fun σ2 H2 => ∃ ps xx ww, σ2 = [some g, some (.int a), some (.int b), some (.ref p), some (.ref d), some (.ref wl), xx, ww, none] ∧ SpSt K H H2 es n avl a d wl ps (c + 1) (c + 1), fun σ2 H2 hN => ?_, ?_⟩
      · obtain ⟨ps2, xx2, ww2, rfl, S2⟩ := hN
        have := S2.small O.hi
        have := S2.le
        exact ⟨8 - (c + 1), by omega, ps2, c + 1, _, _, rfl, S2, rfl⟩
      have wai1 := S1.wai
      rw [hdrop, List.map_cons] at wai1
      refine go_seqA ⟨_, rfl, .inl ⟨rfl, _, sq_of wai1⟩, wl, _, 0, 0, .int x, rfl, rfl, wai1, by decide, by decide, popAt0 _ _, rfl, ?_⟩
      -- the neighbours of x
      have S2 : SpSt K H (upd H1 wl (.lst (((ps.map (·.1)).drop (c + 1)).map V.int))) es n avl a d wl ps c (c + 1) :=
        ⟨Ex.mut S1.ex hwl0, hd, hwl0, dwl, by rw [upd_ne dwl]; exact S1.dic, upd_same, S1.bfs.pop, S1.cl, hlt, S1.rg⟩
      refine ⟨_, rfl, _, rfl, g, n, es, x, rfl, G.ex S2.ex, O, fun L nl H3 N hnl e3 h3 => ?_⟩
      have S3 := S2.mono e3
      have hnl0 : H nl = none := fresh_back S2.ex hnl
      have ndl : d ≠ nl := ne_of_none S2.dic hnl
      have nwl : wl ≠ nl := ne_of_none S2.wai hnl
      refine ⟨nl, rfl, ⟨_, sq_of h3⟩, for_list (xs := L.map V.int) (fun i σ2 H2 => ∃ ps ww, σ2 = [some g, some (.int a), some (.int b), some (.ref p), some (.ref d), some (.ref wl), some (.int x), ww, none] ∧ SpSt K H H2 es n avl a d wl ps c (c + 1) ∧ (ps.map (·.1))[c]? = some x ∧ H2 nl = some (.lst (L.map V.int)) ∧ ∀ w ∈ L.take i, ¬ w ∈ avl → w ∈ ps.map (·.1))
        ⟨ps, _, rfl, S3, hx, h3, by simp⟩ (fun i σ2 H2 _ hP => ?_) (fun i y σ2 H2 hi hP => ?_) (fun σ2 H2 hP => ?_)⟩
      · obtain ⟨_, _, _, _, _, h5, _⟩ := hP
        exact sq_of h5
      · obtain ⟨ps2, ww2, rfl, S5, hx5, h5, hk5⟩ := hP
        rw [List.getElem?_map] at hi
        cases hLi : L[i]? with
        | none =>
          rw [hLi] at hi
          cases hi
        | some w =>
          rw [hLi] at hi
          have ey : y = .int w := (Option.some.inj hi).symm
          subst ey
          have hwm : w ∈ L := List.mem_of_getElem? hLi
          have hadj := (N.mem w).mp hwm
          have tk : L.take (i + 1) = L.take i ++ [w] := by
            rw [List.take_add_one, hLi]
            rfl
          refine s_when (et_and (et_ndin (ev_var rfl) (ev_var rfl) S5.dic) fun _ => et_test (ev_op (ev_var rfl) (ev_var rfl) (rv_niL (ex_l S5.ex hAv) rfl (flat_ints avl)))) (fun hb H6 e6 => ?_) (fun hb H6 e6 => ?_)
          · rw [Bool.and_eq_true, inV_ints] at hb
            have hn1 : w ∉ ps2.map (·.1) := by simpa using hb.1
            have hn2 : ¬ w ∈ avl := by simpa using hb.2
            have S6 := S5.mono e6
            have hsm2 := S6.small O.hi
            refine go_seq ?_
            refine ⟨_, rfl, _, rfl, _, rfl, d, _, rfl, DPut.k (k := Sum.inl w) S6.dic (by rw [dkv, List.length_map]; exact Nat.lt_of_le_of_lt hsm2 (by decide)), ?_⟩
            rw [put_dkv hn1]
            have hwai : (upd H6 d (.dK (dkv (ps2 ++ [(w, x)])))) wl = some (.lst (((ps2.map (·.1)).drop (c + 1)).map V.int)) := by
              rw [upd_ne (Ne.symm dwl)]
              exact S6.wai
            refine ⟨_, rfl, .inl ⟨rfl, _, sq_of hwai⟩, _, rfl, wl, _, _, rfl, rfl, hwai, sz_lt (by rw [List.length_map, List.length_drop, List.length_map]; omega), ?_⟩
            have hrw : 0 ≤ w ∧ w < n := by
              have := O.range hadj
              omega
            refine ⟨ps2 ++ [(w, x)], _, rfl, ⟨Ex.mut (Ex.mut S6.ex hd) hwl0, hd, hwl0, dwl, by rw [upd_ne dwl, upd_same], ?_, S6.bfs.add S6.cl hx5 hadj hn2 hn1, Closed.grow (by have := S6.le; omega) S6.cl, by rw [List.length_append]; have := S6.le; omega, ?_⟩, ?_, ?_, ?_⟩
            · rw [upd_same, List.map_append, List.drop_append_of_le_length (by rw [List.length_map]; exact S6.le), List.map_append]
              rfl
            · intro z hz
              rw [List.map_append] at hz
              rcases List.mem_append.mp hz with hz | hz
              · exact S6.rg z hz
              · simp only [List.map_cons, List.map_nil, List.mem_singleton] at hz
                subst hz
                exact hrw
            · rw [List.map_append, List.getElem?_append_left (List.getElem?_eq_some_iff.mp hx5).1]
              exact hx5
            · rw [upd_ne (Ne.symm nwl), upd_ne (Ne.symm ndl)]
              exact e6 _ _ h5
            · intro z hz hzn
              rw [List.map_append]
              rw [tk] at hz
              rcases List.mem_append.mp hz with hz | hz
              · exact List.mem_append_left _ (hk5 z hz hzn)
              · refine List.mem_append_right _ ?_
                simpa using hz
          · refine ⟨ps2, _, rfl, S5.mono e6, hx5, e6 _ _ h5, fun z hz hzn => ?_⟩
            rw [tk] at hz
            rcases List.mem_append.mp hz with hz | hz
            · exact hk5 z hz hzn
            · have ez : z = w := by simpa using hz
              subst ez
              rw [inV_ints] at hb
              apply Classical.byContradiction
              intro hno
              rw [decide_eq_false hno, decide_eq_false hzn] at hb
              cases hb
      · obtain ⟨ps2, ww2, rfl, S5, hx5, h5, hk5⟩ := hP
        rw [List.length_map, List.take_length] at hk5
        refine ⟨ps2, _, _, rfl, ⟨S5.ex, hd, hwl0, dwl, S5.dic, S5.wai, S5.bfs, ?_, S5.le, S5.rg⟩⟩
        intro i y w hi hy hyw hwn
        by_cases hic : i < c
        · exact S5.cl i y w hic hy hyw hwn
        · have : i = c := by omega
          subst this
          have exy : x = y := Option.some.inj (hx5.symm.trans hy)
          subst exy
          exact hk5 w ((N.mem w).mpr hyw) hwn
    · -- the loop's end
      have S1 := S.mono e1
      refine q_when (et_ndin (ev_var rfl) (ev_var rfl) S1.dic) (fun hv H2 e2 => ?_) (fun hv H2 e2 => ?_)
      · have hvn : b ∉ ps.map (·.1) := by simpa using hv
        have hc : c = ps.length := by
          rw [decide_eq_false hvn] at hb
          simp only [Bool.not_false, Bool.and_true] at hb
          have := of_decide_eq_false hb
          rw [hwlen] at this
          have := S.le
          omega
        refine s_ret ev_c fun H3 e3 => q0 H3 ((S1.ex.trans e2).trans e3) ?_
        have := S.cl
        rw [hc] at this
        exact S.bfs.none this hvn
      · have hvm : b ∈ ps.map (·.1) := by simpa using hv
        have S2 := S1.mono e2
        -- path = [v]
        refine go_seqA ⟨_, rfl, by show 1 ≤ sizeLine; decide, fun pl hpl => ?_⟩
        have hpl0 : H pl = none := fresh_back S2.ex hpl
        have dpl : d ≠ pl := fun z => by
          rw [← z, S2.dic] at hpl
          cases hpl
        obtain ⟨i0, hi0, ei0⟩ := List.mem_iff_getElem.mp hvm
        have hi0' : (ps.map (·.1))[i0]? = some b := by rw [List.getElem?_eq_getElem hi0, ei0]
        have keyOk : ∀ (j : Nat) (k : Int), (ps.map (·.1))[j]? = some k → k = a ∨ ¬ k ∈ avl := fun j k hk => by
          rw [List.getElem?_map] at hk
          cases hpj : ps[j]? with
          | none =>
            rw [hpj] at hk
            cases hk
          | some kq =>
            rw [hpj] at hk
            have ek : kq.1 = k := Option.some.inj hk
            by_cases hj : j = 0
            · subst hj
              left
              have e0 := S.bfs.first
              rw [hpj] at e0
              rw [← ek, Option.some.inj e0]
            · right
              obtain ⟨_, _, _, _, _, h6, _⟩ := S.bfs.par j kq.1 kq.2 hpj hj
              rw [← ek]
              exact h6
        -- while path[-1] != u
        refine q_while (fun m σ' H' => ∃ path ix xx ww, σ' = [some g, some (.int a), some (.int b), some (.ref p), some (.ref d), some (.ref wl), xx, ww, some (.ref pl)] ∧ Ex H H' ∧ H' d = some (.dK (dkv ps)) ∧ H' pl = some (.lst (path.map V.int)) ∧ Back (adj es) (fun w => w ∈ avl) a b (ps.map (·.1)) path ix ∧ ix[path.length - 1]? = some m) i0
          ⟨[b], [i0], _, _, rfl, S2.ex.trans (Ex.new hpl), by rw [upd_ne dpl]; exact S2.dic, upd_same, Back.start hi0' (keyOk _ _ hi0'), rfl⟩ ?_
        rintro m σ' H' ⟨path, ix, xx, ww, rfl, ex, hdic, hpath, BK, hix⟩
        have hlenx := BK.len
        have hpos := BK.pos
        have hlast : path[path.length - 1]? = some (path[path.length - 1]'(by omega)) := List.getElem?_eq_getElem (by omega)
        have hlastV : (path.map V.int)[(path.map V.int).length - 1]? = some (.int (path[path.length - 1]'(by omega))) := by
          rw [List.length_map, List.getElem?_map, hlast]
          rfl
        have hkx := BK.at_ _ _ _ hix hlast
        have hpl7 : path.length ≤ 7 := by
          have h1 : ix.Nodup := by
            rw [List.nodup_iff_pairwise_ne]
            exact BK.dec.imp fun h z => by omega
          have h2 := len_of_sub (m := List.range ps.length) h1 fun t ht => by
            obtain ⟨s, hs, es2⟩ := List.mem_iff_getElem.mp ht
            have := BK.at_ s t _ (by rw [List.getElem?_eq_getElem hs, es2]) (List.getElem?_eq_getElem (by omega))
            have := (List.getElem?_eq_some_iff.mp this).1
            rw [List.length_map] at this
            exact List.mem_range.mpr this
          rw [List.length_range] at h2
          omega
        refine ⟨_, et_test (ev_neI (ev_last (ev_var rfl) (sq_of hpath) hlastV) (ev_var rfl)), fun hb H3 e3 => ?_, fun hb H3 e3 => ?_⟩
        · have hne := of_decide_eq_true hb
          obtain ⟨q, hq⟩ : ∃ q, ps[m]? = some (path[path.length - 1]'(by omega), q) := by
            rw [List.getElem?_map] at hkx
            cases hpj : ps[m]? with
            | none =>
              rw [hpj] at hkx
              cases hkx
            | some kq =>
              rw [hpj] at hkx
              have ek : kq.1 = path[path.length - 1]'(by omega) := Option.some.inj hkx
              exact ⟨kq.2, by rw [← ek]⟩
          have hm0 : m ≠ 0 := fun z => by
            subst z
            have e0 := S.bfs.first
            rw [hq] at e0
            have := Option.some.inj e0
            exact hne (congrArg (·.1) this)
          obtain ⟨j, hj1, _, hj3, hj4, _, hj6⟩ := S.bfs.par m _ q hq hm0
          have hlk := lk_at S.bfs.nd hq
          refine ⟨fun σ2 H2 => ∃ path ix xx ww, σ2 = [some g, some (.int a), some (.int b), some (.ref p), some (.ref d), some (.ref wl), xx, ww, some (.ref pl)] ∧ Ex H H2 ∧ H2 d = some (.dK (dkv ps)) ∧ H2 pl = some (.lst (path.map V.int)) ∧ Back (adj es) (fun w => w ∈ avl) a b (ps.map (·.1)) path ix ∧ ix[path.length - 1]? = some j,
            fun σ2 H2 ⟨path, ix, xx, ww, h⟩ => ⟨j, hj1, path, ix, xx, ww, h⟩, ?_⟩
          refine ⟨_, rfl, .inl ⟨rfl, _, sq_of (e3 _ _ hpath)⟩, ?_⟩
          refine ⟨_, rfl, ev_last (ta := tVar 8) (ev_var rfl) (sq_of (e3 _ _ hpath)) hlastV H3 (Ex.refl H3) _ fun H4 e4 => ?_⟩
          have hd4 : H4 d = some (.dK (dkv ps)) := e4 _ _ (e3 _ _ hdic)
          have hp4 : H4 pl = some (.lst (path.map V.int)) := e4 _ _ (e3 _ _ hpath)
          refine ⟨d, .int q, rfl, ?_, pl, _, _, rfl, rfl, hp4, sz_lt (by rw [List.length_map]; omega), ?_⟩
          · have := DGet.k (k := Sum.inl (path[path.length - 1]'(by omega))) hd4
            rw [valV_dkv, hlk] at this
            exact this
          · refine ⟨path ++ [q], ix ++ [j], _, _, rfl, Ex.mut ((ex.trans e3).trans e4) hpl0, by rw [upd_ne dpl]; exact hd4, by rw [upd_same, List.map_append]; rfl, BK.step hlast hix hj3 hj1 hj4 hj6 (keyOk _ _ hj3), ?_⟩
            rw [List.length_append]
            simp only [List.length_cons, List.length_nil, Nat.zero_add, Nat.add_sub_cancel]
            rw [← hlenx]
            simp
        · have heq : path[path.length - 1]'(by omega) = a := by simpa using hb
          rw [heq] at hlast
          have IP := BK.ends S.bfs.nd hlast
          refine go_seq ?_
          refine ⟨_, rfl, .inl ⟨rfl, _, sq_of (e3 _ _ hpath)⟩, pl, _, rfl, rfl, e3 _ _ hpath, ?_⟩
          refine ⟨_, rfl, pl, (path.map V.int).reverse, rfl, .inl ⟨sq_of upd_same, fun t ht => ?_⟩⟩
          refine q1 path.reverse t _ ((Ex.mut (ex.trans e3) hpl0).trans (Ex.new ht)) IP ⟨IP.nd, fun k hk => ?_, by rw [List.length_reverse]; omega⟩ (by rw [List.map_reverse]; exact st_of upd_same)
          obtain ⟨t2, ht2, e2⟩ := List.mem_iff_getElem.mp (List.mem_reverse.mp hk)
          have := BK.at_ t2 (ix[t2]'(by omega)) k (List.getElem?_eq_getElem (by omega)) (by rw [List.getElem?_eq_getElem ht2, e2])
          exact S.rg k (List.mem_of_getElem? this)
end
end Tr
namespace Tr
open PySem PySem.Spec PyProof.Rows L2 Evl StX
open C8 (Cal pe_c pe_gc)
section
variable {P : Program} {w : World} {K : PySem.W.Frag} {mg : Str → Option Value} {base : Heap}
theorem sc_find_hole : FnScope ["graph", "v", "near", "a", "b", "avoided", "path", "c"] ["graph"] (defScope (top 88)) := ⟨rfl, rfl, rfl, by decide +kernel, rfl, by decide +kernel, by decide +kernel⟩
theorem ok_find_hole (D : DefAt K mg "find_hole" 88) (B : Bt mg) (c_neighbours : Ca P w K mg base 1 "neighbours" (sp_neighbours K)) (c_are_neighbours : Ca P w K mg base 2 "are_neighbours" (sp_are_neighbours K)) (c_shortest_path : Ca P w K mg base 2 "shortest_path" (sp_shortest_path K)) : Ca P w K mg base 3 "find_hole" (sp_find_hole K) := by
  refine D.mk (k := 2) sc_find_hole (fun _ _ _ _ _ _ us hl => match us, hl with | [_], _ => rfl) (fun vs H Q E h => ?_) (fun f cdv A outer s H vs Q E hr h => ?_)
  · obtain ⟨g, n, es, rfl, _⟩ := h
    rfl
  · obtain ⟨g, n, es, rfl, G, O, q0, q1⟩ := h
    have hu := hu_of hr
    have hu65 := hu65_of hr
    have sc := sc_find_hole
    refine ⟨_, (pss_cons (ps_for PassesOwn.never rfl (pi_range1 (by rfl) B.range_ (pa_cons (pe_ix (ixT K) (pv 0) pe_int (fun _ _ => rfl)) pa_nil)) (pg_name (i := 1) sc.nd rfl (by first | exact Or.inl rfl | exact Or.inr rfl)) (pss_cons (ps_set (i := 2) sc.nd rfl (by first | exact Or.inl rfl | exact Or.inr rfl) (pe_c c_neighbours hr (by decide) (by rfl) (pa_cons (pv 0) (pa_cons (pv 1) pa_nil))))
      (pss_one (ps_for PassesOwn.never rfl (piL K (pv 2)) (pg_name (i := 3) sc.nd rfl (by first | exact Or.inl rfl | exact Or.inr rfl)) (pss_one (ps_for PassesOwn.never rfl (piL K (pv 2)) (pg_name (i := 4) sc.nd rfl (by first | exact Or.inl rfl | exact Or.inr rfl)) (pss_one (ps_if (PW.pt (pw_and (pt_cmpR op_lt (pv 3) (pv 4) (nomark _)) (pw_and1 (pt_not (pt_val (pe_c c_are_neighbours hr (by decide) (by rfl) (pa_cons (pv 0) (pa_cons (pv 3) (pa_cons (pv 4) pa_nil))))))))) (pss_cons (ps_set (i := 5) sc.nd rfl (by first | exact Or.inl rfl | exact Or.inr rfl) (pe_op op_cat (pe_lst (pa_cons (pv 1) pa_nil)) (pe_lc (own := [("c", 7)]) (by rfl) sc.nd (piL K (pv 2)) (blkOk_by (own := [("c", 7)]) (N := ["graph", "v", "near", "a", "b", "avoided", "path", "c"]) (sc := defScope (top 88)) (by decide +kernel)) (fun _ _ _ _ _ => (pg_name (i := 7) sc.nd rfl (by first | exact Or.inl rfl | exact Or.inr rfl))) (fun _ _ _ _ _ => (pts_one (PW.pt (pw_and (pt_cmpR op_ne (pv 7) (pv 3) (nomark _)) (pw_and1 (pt_cmpR op_ne (pv 7) (pv 4) (nomark _))))))) (fun _ _ _ _ _ => (pv 7)))))
      (pss_cons (ps_set (i := 6) sc.nd rfl (by first | exact Or.inl rfl | exact Or.inr rfl) (pe_c c_shortest_path hr (by decide) (by rfl) (pa_cons (pv 0) (pa_cons (pv 3) (pa_cons (pv 4) (pa_cons (pv 5) pa_nil))))))
      (pss_one (ps_if (pt_cmpR op_notN (pv 6) pe_non (nomark _)) (pss_one (ps_ret (pe_tup (pa_cons (pv 1) (pa_star (pv 6) pa_nil))))) pss_nil)))) pss_nil))))))))
      (pss_one (ps_ret pe_non))), ?_⟩
    have irr := O.irr
    have sym : ∀ u v, adj es u v → adj es v u := fun u v => adj_sym u v
    let A := adj es
    let NP : Int → Int → Int → Prop := fun v a b => adj es v a → adj es v b → a < b → ¬ adj es a b → ¬ Conn (adj es) (okAt (adj es) v a b) a b
    refine q_forR1 (n := n) (ea_cons (ev_n (ev_var rfl) G) ea_nil) ⟨by have := O.lo; omega, by have := O.hi; omega⟩
      (fun i σ2 H2 => Ex H H2 ∧ (∃ x1 x2 x3 x4 x5 x6, σ2 = [some g, x1, x2, x3, x4, x5, x6, none]) ∧ ∀ v : Int, 0 ≤ v → v < (i : Int) → ∀ a b, NP v a b) (fun H1 e1 => ⟨e1, ⟨_, _, _, _, _, _, rfl⟩, fun v h1 h2 => by omega⟩) (fun i σ2 H2 hi hP => ?_) (fun σ2 H2 hP => ?_)
    · obtain ⟨e2, ⟨x1, x2, x3, x4, x5, x6, rfl⟩, hd⟩ := hP
      -- near = neighbours(graph, v)
      refine go_seqA ⟨_, rfl, _, rfl, g, n, es, (i : Int), rfl, G.ex e2, O, fun L nl H3 N hnl e3 h3 => ?_⟩
      have hLl := N.len
      -- for a in near
      refine ⟨.ref nl, rfl, nl, rfl, ⟨_, sq_of h3⟩, for_list (xs := L.map V.int) (fun j σ3 H4 => Ex H3 H4 ∧ (∃ x3 x4 x5 x6, σ3 = [some g, some (.int (i : Int)), some (.ref nl), x3, x4, x5, x6, none]) ∧ ∀ a ∈ L.take j, ∀ b, NP (i : Int) a b)
        ⟨Ex.refl _, ⟨_, _, _, _, rfl⟩, by simp⟩ (fun j σ3 H4 _ hP => sq_of (hP.1 _ _ h3)) (fun j y σ3 H4 hj hP => ?_) (fun σ3 H4 hP => ?_)⟩
      · obtain ⟨e4, ⟨x3, x4, x5, x6, rfl⟩, hd4⟩ := hP
        rw [List.getElem?_map] at hj
        cases hLj : L[j]? with
        | none =>
          rw [hLj] at hj
          cases hj
        | some a =>
          rw [hLj] at hj
          have ey : y = .int a := (Option.some.inj hj).symm
          subst ey
          have ham : a ∈ L := List.mem_of_getElem? hLj
          have hva := (N.mem a).mp ham
          have tk : L.take (j + 1) = L.take j ++ [a] := by
            rw [List.take_add_one, hLj]
            rfl
          -- for b in near
          refine ⟨.ref nl, rfl, nl, rfl, ⟨_, sq_of (e4 _ _ h3)⟩, for_list (xs := L.map V.int) (fun k σ5 H5 => Ex H4 H5 ∧ (∃ x4 x5 x6, σ5 = [some g, some (.int (i : Int)), some (.ref nl), some (.int a), x4, x5, x6, none]) ∧ ∀ b ∈ L.take k, NP (i : Int) a b)
            ⟨Ex.refl _, ⟨_, _, _, rfl⟩, by simp⟩ (fun k σ5 H5 _ hP => sq_of (hP.1 _ _ (e4 _ _ h3))) (fun k y σ5 H5 hk hP => ?_) (fun σ5 H5 hP => ?_)⟩
          · obtain ⟨e5, ⟨x4, x5, x6, rfl⟩, hd5⟩ := hP
            rw [List.getElem?_map] at hk
            cases hLk : L[k]? with
            | none =>
              rw [hLk] at hk
              cases hk
            | some b =>
              rw [hLk] at hk
              have ey : y = .int b := (Option.some.inj hk).symm
              subst ey
              have hbm : b ∈ L := List.mem_of_getElem? hLk
              have hvb := (N.mem b).mp hbm
              have tk2 : L.take (k + 1) = L.take k ++ [b] := by
                rw [List.take_add_one, hLk]
                rfl
              have eH5 : Ex H H5 := ((e2.trans e3).trans e4).trans e5
              have hnl5 : H5 nl = some (.lst (L.map V.int)) := e5 _ _ (e4 _ _ h3)
              have nxt : ∀ H', Ex H5 H' → NP (i : Int) a b → ∀ z5 z6, Ex H4 H' ∧ (∃ x4 x5 x6, [some g, some (V.int (i : Int)), some (.ref nl), some (.int a), some (.int b), z5, z6, none] = [some g, some (V.int (i : Int)), some (.ref nl), some (.int a), x4, x5, x6, none]) ∧ ∀ b ∈ L.take (k + 1), NP (i : Int) a b := fun H' e' hn z5 z6 =>
                ⟨e5.trans e', ⟨_, _, _, rfl⟩, fun b' hb' => by
                  rw [tk2] at hb'
                  rcases List.mem_append.mp hb' with hb' | hb'
                  · exact hd5 b' hb'
                  · have : b' = b := by simpa using hb'
                    rw [this]
                    exact hn⟩
              refine s_when (et_and (et_test (ev_lt (ev_var rfl) (ev_var rfl))) fun _ => et_not (et_B (ev_call3 (ev_var rfl) (ev_var rfl) (ev_var rfl) (sv_adj (G.ex eH5))))) (fun hb H6 e6 => ?_) (fun hb H6 e6 => nxt H6 e6 (fun _ _ h3 h4 => ?_) _ _)
              · rw [Bool.and_eq_true] at hb
                have hab : a < b := of_decide_eq_true hb.1
                have hnab : ¬ adj es a b := fun z => by
                  have := (adjB_iff es a b).mpr z
                  rw [this] at hb
                  cases hb.2
                have e6H : Ex H H6 := eH5.trans e6
                -- avoided = [v] + [c for c in near if c != a and c != b]
                refine go_seqA ⟨_, rfl, by show 1 ≤ sizeLine; decide, fun l1 hl1 => ?_⟩
                have e7 : Ex H6 (upd H6 l1 (.lst [.int (i : Int)])) := Ex.new hl1
                have L7 := en_L (K := K) (H := upd H6 l1 (.lst [.int (i : Int)])) (σ := [some g, some (.int (i : Int)), some (.ref nl), some (.int a), some (.int b), x5, x6, none]) (tl := tVar 2) (g := gName 7) (vs := [7]) (enc := PyData.int) (as := L)
                  (te := tVar 7) (t := tAnd (tTest (tOp rNe (tVar 7) (tVar 3))) (tTest (tOp rNe (tVar 7) (tVar 4)))) (f := fun c => decide (c ≠ a) && decide (c ≠ b)) (r := fun c => .int c) (τ := fun _ x => [some g, some (.int (i : Int)), some (.ref nl), some (.int a), some (.int b), x5, x6, some x])
                  (evd_v (ev_var rfl) (dp_ints_l (sq_of (e7 _ _ (e6 _ _ hnl5))))) (by omega) (fun _ => rfl) (fun a x H1 R hx hR => hR) (fun a x H1 hx => rfl)
                  (fun c x H1 _ _ hx => by rw [dp_int hx]; exact et_and (et_test (ev_neI (ev_var rfl) (ev_var rfl))) fun _ => et_test (ev_neI (ev_var rfl) (ev_var rfl))) (fun c x H1 _ _ hx _ => by rw [dp_int hx]; exact evd_int (ev_var rfl))
                refine (EvN.ints (K := K) (ks := L.filter fun c => decide (c ≠ a) && decide (c ≠ b)) L7) _ (Ex.refl _) _ fun l2 H8 hl2 e8 h8 => ?_
                have hl18 : H8 l1 = some (.lst [.int (i : Int)]) := e8 _ _ upd_same
                refine ⟨l1, l2, _, _, rfl, rfl, hl18, h8, ?_, fun l3 hl3 => ?_⟩
                · rw [List.length_map]
                  have := List.length_filter_le (fun c => decide (c ≠ a) && decide (c ≠ b)) L
                  exact sz_of (by simp only [List.length_cons, List.length_nil]; omega)
                have e9 : Ex H8 (upd H8 l3 (.lst ([.int (i : Int)] ++ (L.filter fun c => decide (c ≠ a) && decide (c ≠ b)).map V.int))) := Ex.new hl3
                have eAll : Ex H _ := ((e6H.trans e7).trans e8).trans e9
                have hav : ∀ w, ¬ w ∈ ((i : Int) :: L.filter fun c => decide (c ≠ a) && decide (c ≠ b)) ↔ okAt (adj es) (i : Int) a b w := fun w => by
                  simp only [List.mem_cons, List.mem_filter, Bool.and_eq_true, decide_eq_true_eq, okAt, N.mem, not_or]
                  constructor
                  · rintro ⟨h1, h2⟩
                    refine ⟨h1, fun h3 => ?_⟩
                    apply Classical.byContradiction
                    intro h4
                    exact h2 ⟨h3, fun z => h4 (.inl z), fun z => h4 (.inr z)⟩
                  · rintro ⟨h1, h2⟩
                    exact ⟨h1, fun ⟨h3, h4, h5⟩ => by
                      rcases h2 h3 with z | z
                      · exact h4 z
                      · exact h5 z⟩
                have rga := O.range hva
                -- path = shortest_path(graph, a, b, avoided)
                refine go_seqA ⟨_, rfl, _, rfl, _, rfl, _, rfl, g, n, es, a, b, l3, (i : Int) :: L.filter (fun c => decide (c ≠ a) && decide (c ≠ b)), rfl, G.ex eAll, O, sq_of upd_same, ⟨by omega, by omega⟩, fun H10 e10 hno => ?_, fun R t H10 e10 IP hgR hT => ?_⟩
                · refine s_when (b := false) (et_is (et_test (fun H1 e Q q => ⟨_, rfl, rfl, q H1 (Ex.refl H1)⟩ : Ev _ _ _ (.bl (!decide (V.non = V.non))))) (by decide)) (fun z => nomatch z) (fun _ H11 e11 => ?_)
                  refine nxt H11 ((((e6.trans e7).trans e8).trans e9).trans (e10.trans e11)) (fun _ _ _ _ hc => hno (hc.mono fun w hw => (hav w).mpr hw)) _ _
                · refine s_when (b := true) (et_is (et_test (fun H1 e Q q => ⟨_, rfl, rfl, q H1 (Ex.refl H1)⟩ : Ev _ _ _ (.bl (!decide (V.ref t = V.non))))) (by simp)) (fun _ H11 e11 => ?_) (fun z => nomatch z)
                  have HP : HoleP (adj es) ((i : Int) :: R) := hole_of sym irr hva hvb hnab (by omega) (av := fun w => w ∈ ((i : Int) :: L.filter fun c => decide (c ≠ a) && decide (c ≠ b))) (fun x => by
                    simp only [List.mem_cons, List.mem_filter, Bool.and_eq_true, decide_eq_true_eq, N.mem]) IP
                  have rgv := O.range hva
                  have hgood : GoodT n ((i : Int) :: R) := ⟨HP.nd, fun k hk => by
                    rcases List.mem_cons.mp hk with rfl | hk
                    · omega
                    · exact hgR.rg k hk, by
                    have h1 := len_range (n := n) (ks := (i : Int) :: R) HP.nd (fun k hk => by
                      rcases List.mem_cons.mp hk with rfl | hk
                      · omega
                      · exact hgR.rg k hk)
                    have := O.hi
                    omega⟩
                  refine ⟨_, rfl, _, rfl, t, _, rfl, .inl (ex_t e11 hT), ?_, fun p hp => ?_⟩
                  · rw [List.append_nil, List.length_cons, List.length_map]
                    have := hgR.len
                    exact sz_of (by omega)
                  · rw [List.append_nil]
                    exact q1 ((i : Int) :: R) p _ (eAll.trans ((e10.trans e11).trans (Ex.new hp))) HP hgood (st_of upd_same)
              · rw [decide_eq_true h3] at hb
                have : adjB es a b = true := by simpa using hb
                exact absurd ((adjB_iff _ _ _).mp this) h4
          · obtain ⟨e5, ⟨x4, x5, x6, rfl⟩, hd5⟩ := hP
            rw [List.length_map, List.take_length] at hd5
            refine ⟨e4.trans e5, ⟨_, _, _, _, rfl⟩, fun a' ha' b => ?_⟩
            rw [tk] at ha'
            rcases List.mem_append.mp ha' with ha' | ha'
            · exact hd4 a' ha' b
            · have : a' = a := by simpa using ha'
              subst this
              intro h1 h2
              exact hd5 b ((N.mem b).mpr h2) h1 h2
      · obtain ⟨e4, ⟨x3, x4, x5, x6, rfl⟩, hd4⟩ := hP
        rw [List.length_map, List.take_length] at hd4
        refine ⟨(e2.trans e3).trans e4, ⟨_, _, _, _, _, _, rfl⟩, fun v h1 h2 a b => ?_⟩
        by_cases hv : v < (i : Int)
        · exact hd v h1 hv a b
        · have : v = (i : Int) := by omega
          subst this
          intro h3 h4
          exact hd4 a ((N.mem a).mpr h3) b h3 h4
    · obtain ⟨e2, ⟨x1, x2, x3, x4, x5, x6, rfl⟩, hd⟩ := hP
      refine s_ret ev_c fun H3 e3 => q0 H3 (e2.trans e3) (noHole_of sym irr fun v a b h1 h2 h3 h4 => ?_)
      have := O.range h1
      exact hd v (by omega) (by omega) a b h1 h2 h3 h4
end
end Tr
namespace Tr
open PySem PySem.Spec PyProof.Rows L2 Evl StX
open C8 (Cal pe_c pe_gc)
section
variable {P : Program} {w : World} {K : PySem.W.Frag} {mg : Str → Option Value} {base : Heap}
theorem first_of {x : Int} {l : List Int} (h : x ∈ l) : ∃ j : Nat, l[j]? = some x ∧ ∀ m : Nat, m < j → l[m]? ≠ some x := by
  induction l with
  | nil => cases h
  | cons a r ih =>
    by_cases e : a = x
    · exact ⟨0, by simp [e], fun m hm => absurd hm (by omega)⟩
    · have hx : x ∈ r := by
        rcases List.mem_cons.mp h with z | z
        · exact absurd z.symm e
        · exact z
      obtain ⟨j, h1, h2⟩ := ih hx
      refine ⟨j + 1, by simpa using h1, fun m hm => ?_⟩
      match m, hm with
      | 0, _ => simpa using e
      | m + 1, hm => simpa using h2 m (by omega)
theorem eraseIdx_erase {x : Int} : ∀ {l : List Int} {j : Nat}, l[j]? = some x → (∀ m : Nat, m < j → l[m]? ≠ some x) → l.eraseIdx j = l.erase x
  | [], j, h, _ => by simp at h
  | a :: r, 0, h, _ => by
    have e : a = x := by simpa using h
    subst e
    simp
  | a :: r, j + 1, h, hn => by
    have e : ¬ a = x := by simpa using hn 0 (by omega)
    have ih := eraseIdx_erase (l := r) (j := j) (by simpa using h) fun m hm => by simpa using hn (m + 1) (by omega)
    have e2 : (a == x) = false := beq_eq_false_iff_ne.mpr e
    rw [List.eraseIdx_cons_succ, ih, List.erase_cons, e2]
    rfl
theorem sc_clique_order : FnScope ["graph", "left", "order", "ready", "v", "u"] ["graph"] (defScope (top 89)) := ⟨rfl, rfl, rfl, by decide +kernel, rfl, by decide +kernel, by decide +kernel⟩
theorem ok_clique_order (D : DefAt K mg "clique_order" 89) (B : Bt mg) (c_is_clique : Ca P w K mg base 3 "is_clique" (sp_is_clique K)) (c_neighbours : Ca P w K mg base 1 "neighbours" (sp_neighbours K)) : Ca P w K mg base 4 "clique_order" (sp_clique_order K) := by
  refine D.mk (k := 3) sc_clique_order (fun _ _ _ _ _ _ us hl => match us, hl with | [_], _ => rfl) (fun vs H Q E h => ?_) (fun f cdv A outer s H vs Q E hr h => ?_)
  · obtain ⟨g, n, es, rfl, _⟩ := h
    rfl
  · obtain ⟨g, n, es, rfl, G, O, NH, q1⟩ := h
    have hu := hu_of hr
    have hu65 := hu65_of hr
    have sc := sc_clique_order
    refine ⟨_, (pss_cons (ps_set (i := 1) sc.nd rfl (by first | exact Or.inl rfl | exact Or.inr rfl) (pe_listRg rfl (by rfl) B.list_ (prg_1 (by rfl) B.range_ (pe_ix (ixT K) (pv 0) pe_int (fun _ _ => rfl)))))
      (pss_cons (ps_set (i := 2) sc.nd rfl (by first | exact Or.inl rfl | exact Or.inr rfl) (pe_lst pa_nil))
      (pss_cons (ps_while PassesOwn.never (pt_cmpR op_gt (pe_callB (lenS K) (by rfl) B.len_ PySem.boot_len (pa_cons (pv 1) pa_nil)) pe_int (nomark _)) (pss_cons (ps_setLc (i := 3) (own := [("v", 4)]) (by rfl) sc.nd rfl rfl (sw_true rfl rfl rfl (by decide +kernel)) (piL K (pv 1)) (blkOk_by (own := [("v", 4)]) (N := ["graph", "left", "order", "ready", "v", "u"]) (sc := defScope (top 89)) (by decide +kernel)) (fun _ _ _ _ _ => (pg_name (i := 4) sc.nd rfl (by first | exact Or.inl rfl | exact Or.inr rfl))) (fun _ _ _ _ _ => (pts_one (pt_val (pe_c c_is_clique hr (by decide) (by rfl) (pa_cons (pv 0) (pa_cons (pe_callTy (tupS K) (by rfl) B.tuple_ (by decide +kernel) (pa_cons (pe_lc (own := [("u", 5)]) (by rfl) sc.nd (piL K (pe_c c_neighbours hr (by decide) (by rfl) (pa_cons (pv 0) (pa_cons (pv 4) pa_nil)))) (blkOk_by (by first | rfl | kernel_rfl)) (fun _ _ _ _ _ => (pg_name (i := 5) sc.nd rfl (by first | exact Or.inl rfl | exact Or.inr rfl))) (fun _ _ _ _ _ => (pts_one (pt_cmpR (inS K) (pv 5) (pv 1) (by rfl)))) (fun _ _ _ _ _ => (pv 5))) pa_nil)) pa_nil)))))) (fun _ _ _ _ _ => (pv 4)))
      (pss_cons (ps_if (pt_cmpR op_eq (pe_callB (lenS K) (by rfl) B.len_ PySem.boot_len (pa_cons (pv 3) pa_nil)) pe_int (nomark _)) (pss_one (ps_ret pe_non)) pss_nil)
      (pss_cons (ps_expr (bmS K PySem.F.plainAttrs_list PySem.F.slot_list_append PySem.F.type_list_append mt_append (pv 2) (pa_cons (pe_ix (ixL K) (pv 3) pe_int (fun _ _ => rfl)) pa_nil)))
      (pss_one (ps_expr (bmS K PySem.F.plainAttrs_list PySem.F.slot_list_remove PySem.F.type_list_remove mt_remove (pv 1) (pa_cons (pe_ix (ixL K) (pv 3) pe_int (fun _ _ => rfl)) pa_nil))))))))
      (pss_one (ps_ret (pe_callTy (tupS K) (by rfl) B.tuple_ (by decide +kernel) (pa_cons (pv 2) pa_nil))))))), ?_⟩
    have irr := O.irr
    have sym : ∀ u v, adj es u v → adj es v u := fun u v => adj_sym u v
    have hn1 := O.lo
    have hn7 := O.hi
    -- left = list(range(graph[0])), order = []
    refine go_seqA (ev_n (ta := tVar 0) (ev_var rfl) G H (Ex.refl H) _ fun H1 e1 => ?_)
    refine ⟨n, rfl, RgOk.of_le (by omega) (by omega) (by omega) (by omega), fun ll hll => ?_⟩
    rw [rgV_ints]
    have hll0 : H ll = none := fresh_back e1 hll
    refine go_seqA ⟨Nat.zero_le _, fun ol hol => ?_⟩
    have hol0 : H ol = none := fresh_back (e1.trans (Ex.new hll)) hol
    have lo : ll ≠ ol := ne_of_none upd_same hol
    refine q_while (fun m σ' H' => ∃ ord lf x3 x4, σ' = [some g, some (.ref ll), some (.ref ol), x3, x4, none] ∧ Ex H H' ∧ H' ll = some (.lst (lf.map V.int)) ∧ H' ol = some (.lst (ord.map V.int)) ∧ (ord ++ lf).Perm (rgI 0 n.toNat) ∧ PeoP es ord lf ∧ m = lf.length) (rgI 0 n.toNat).length
      ⟨[], rgI 0 n.toNat, _, _, rfl, (e1.trans (Ex.new hll)).trans (Ex.new hol), by rw [upd_ne lo, upd_same], upd_same, List.Perm.refl _, fun k hk => absurd hk (by simp), rfl⟩ ?_
    rintro m σ' H' ⟨ord, lf, x3, x4, rfl, ex, hl, ho, hperm, hpeo, rfl⟩
    have hlen : ord.length + lf.length = n.toNat := by
      have := hperm.length_eq
      rwa [List.length_append, rgI_len] at this
    have hnd : (ord ++ lf).Nodup := by
      refine (hperm.nodup_iff).mpr ?_
      unfold rgI
      rw [List.nodup_iff_pairwise_ne]
      refine List.pairwise_map.mpr (List.pairwise_iff_getElem.mpr fun i j hi hj hij => ?_)
      simp only [List.getElem_range]
      omega
    have hrg : ∀ x ∈ ord ++ lf, 0 ≤ x ∧ x < n := fun x hx => by
      have := mem_rgI.mp (hperm.mem_iff.mp hx)
      omega
    refine ⟨_, et_test (ev_gt (ev_len (ev_var rfl) (sq_of hl)) ev_c), fun hb H2 e2 => ?_, fun hb H2 e2 => ?_⟩
    · have hpos : 0 < lf.length := by
        have := of_decide_eq_true hb
        rw [List.length_map] at this
        omega
      have hl2 := e2 _ _ hl
      refine ⟨fun σ2 H3 => ∃ ord lf2 x3 x4, σ2 = [some g, some (.ref ll), some (.ref ol), x3, x4, none] ∧ Ex H H3 ∧ H3 ll = some (.lst (lf2.map V.int)) ∧ H3 ol = some (.lst (ord.map V.int)) ∧ (ord ++ lf2).Perm (rgI 0 n.toNat) ∧ PeoP es ord lf2 ∧ lf2.length < lf.length,
        fun σ2 H3 ⟨ord, lf2, x3, x4, h1, h2, h3, h4, h5, h6, h7⟩ => ⟨lf2.length, h7, ord, lf2, x3, x4, h1, h2, h3, h4, h5, h6, rfl⟩, ?_⟩
      -- ready
      let fr : Int → Bool := fun v => clq es (lf.filter fun u => adjB es v u)
      have L3 := en_L (K := K) (H := H2) (σ := [some g, some (.ref ll), some (.ref ol), x3, x4, none]) (tl := tVar 1) (g := gName 4) (vs := [4]) (enc := PyData.int) (as := lf)
        (te := tVar 4) (t := tB (tCall (sp_is_clique K) [] C8.E0 (tCons (tVar 0) (tCons (tCB (rTupS K) (tCons (tLc (iList K (tCall (sp_neighbours K) [] C8.E0 (tCons (tVar 0) (tCons (tVar 4) tNil)))) (gName 5) (tTest (tOp (rIn K false) (tVar 5) (tVar 1))) (tVar 5) [5]) tNil)) tNil))))
        (f := fr) (r := fun v => .int v) (τ := fun _ x => [some g, some (.ref ll), some (.ref ol), x3, some x, none])
        (evd_v (ev_var rfl) (dp_ints_l (sq_of hl2))) (by omega) (fun _ => rfl) (fun a x H1 R hx hR => hR) (fun a x H1 hx => rfl)
        (fun v x H3 hv e3 hx => by
          rw [dp_int hx]
          intro H4 e4 Q q
          have G4 := G.ex (((ex.trans e2).trans e3).trans e4)
          refine ⟨g, rfl, _, rfl, _, rfl, g, n, es, v, rfl, G4, O, fun L nl H5 N hnl e5 h5 => ?_⟩
          have hl5 : H5 ll = some (.lst (lf.map V.int)) := e5 _ _ (e4 _ _ (e3 _ _ hl2))
          have hLl := N.len
          have L6 := en_L (K := K) (H := H5) (σ := [some g, some (.ref ll), some (.ref ol), x3, some (.int v), none]) (tl := tC (.ref nl)) (g := gName 5) (vs := [5]) (enc := PyData.int) (as := L) (te := tVar 5) (t := tTest (tOp (rIn K false) (tVar 5) (tVar 1)))
            (f := fun u => decide (u ∈ lf)) (r := fun v => .int v) (τ := fun _ x => [some g, some (.ref ll), some (.ref ol), x3, some (.int v), some x]) (evd_v ev_c (dp_ints_l (sq_of h5))) (by omega) (fun _ => rfl) (fun a x H1 R hx hR => hR) (fun a x H1 hx => rfl)
            (fun u x H6 _ e6 hx => by
              rw [dp_int hx]
              refine et_is (et_test (ev_op (ev_var rfl) (ev_var rfl) (rv_isL (sq_of (e6 _ _ hl5)) rfl (flat_ints lf)))) ?_
              rw [inV_ints]) (fun u x H6 _ _ hx _ => by rw [dp_int hx]; exact evd_int (ev_var rfl))
          refine (EvN.ints (K := K) (ks := L.filter fun u => decide (u ∈ lf)) L6) H5 (Ex.refl _) (fun x H1 => tNil [some g, some (.ref ll), some (.ref ol), x3, some (.int v), none] H1 fun xs H2 => rTupS K (x :: xs) H2 fun x H1 => tNil [some g, some (.ref ll), some (.ref ol), x3, some (.int v), none] H1 fun xs H2 => sp_is_clique K ((g :: x :: xs) ++ []) H2 (fun x H1 => ∃ c, x = V.bl c ∧ Q c H1) C8.E0) fun p H6 hp e6 h6 => ?_
          refine ⟨p, _, rfl, .inl ⟨sq_of h6, fun t ht => ?_⟩⟩
          have e7 : Ex H4 (upd H6 t (.tup ((L.filter fun u => decide (u ∈ lf)).map V.int))) := (e5.trans e6).trans (Ex.new ht)
          refine ⟨_, ⟨g, n, es, t, L.filter fun u => decide (u ∈ lf), rfl, G4.ex e7, st_of upd_same, Nat.le_trans (List.length_filter_le _ _) hLl, rfl⟩, fun y H8 e8 hy => ?_⟩
          have hy2 : y = .bl (clq es (L.filter fun u => decide (u ∈ lf))) := hy
          have ec : clq es (L.filter fun u => decide (u ∈ lf)) = fr v := clq_congr fun u => by
            simp only [List.mem_filter, decide_eq_true_eq, N.mem, adjB_iff]
            exact And.comm
          rw [ec] at hy2
          subst hy2
          exact ⟨_, rfl, q H8 (e7.trans e8)⟩)
        (fun v x H3 _ _ hx _ => by rw [dp_int hx]; exact evd_int (ev_var rfl))
      refine go_seqA ((EvN.ints (K := K) (ks := lf.filter fr) L3) H2 (Ex.refl _) _ fun rl H3 hrl e3 h3 => ?_)
      have hne : lf.filter fr ≠ [] := by
        obtain ⟨x, hx, hs⟩ := simplicial sym irr NH lf (List.ne_nil_of_length_pos hpos)
        refine List.ne_nil_of_mem (a := x) (List.mem_filter.mpr ⟨hx, ?_⟩)
        refine clq_iff.mpr fun u hu v hv hne => ?_
        rw [List.mem_filter, adjB_iff] at hu hv
        exact hs u hu.1 v hv.1 hu.2 hv.2 hne
      obtain ⟨x, r, hxr⟩ : ∃ x r, lf.filter fr = x :: r := by
        cases hf : lf.filter fr with
        | nil => exact absurd hf hne
        | cons x r => exact ⟨x, r, rfl⟩
      have hxm : x ∈ lf ∧ fr x = true := List.mem_filter.mp (by rw [hxr]; exact List.mem_cons_self)
      rw [hxr] at h3
      have hx0 : ((x :: r).map V.int)[0]? = some (.int x) := rfl
      -- if len(ready) == 0
      refine q_when (b := false) (et_is (et_test (ev_eqI (ev_len (ev_var rfl) (sq_of h3)) ev_c)) (by rw [List.length_map, List.length_cons]; exact decide_eq_false (by omega))) (fun z => nomatch z) fun _ H4 e4 => ?_
      have ho4 : H4 ol = some (.lst (ord.map V.int)) := e4 _ _ (e3 _ _ (e2 _ _ ho))
      have hl4 : H4 ll = some (.lst (lf.map V.int)) := e4 _ _ (e3 _ _ hl2)
      have h4 := e4 _ _ h3
      have hrl0 : H rl = none := fresh_back (ex.trans e2) hrl
      have rlo : rl ≠ ol := fun z => ne_of_none (e2 _ _ ho) hrl z.symm
      -- order.append(ready[0])
      refine go_seq ?_
      refine ⟨_, rfl, .inl ⟨rfl, _, sq_of ho4⟩, _, rfl, rl, _, 0, _, rfl, rfl, sq_of h4, atI_nat (j := 0) hx0, ol, _, _, rfl, rfl, ho4, sz_lt (by rw [List.length_map]; omega), ?_⟩
      -- left.remove(ready[0])
      obtain ⟨j, hj, hjn⟩ := first_of hxm.1
      have hl5 : (upd H4 ol (.lst (ord.map V.int ++ [.int x]))) ll = some (.lst (lf.map V.int)) := by
        rw [upd_ne lo]
        exact hl4
      have h5 : (upd H4 ol (.lst (ord.map V.int ++ [.int x]))) rl = some (.lst ((x :: r).map V.int)) := by
        rw [upd_ne rlo]
        exact h4
      refine ⟨_, rfl, .inl ⟨rfl, _, sq_of hl5⟩, _, rfl, rl, _, 0, _, rfl, rfl, sq_of h5, atI_nat (j := 0) hx0, ll, lf, x, j, rfl, rfl, hl5, hj, hjn, ?_⟩
      rw [eraseIdx_erase hj hjn]
      have hle := List.length_erase_of_mem hxm.1
      refine ⟨ord ++ [x], lf.erase x, _, _, rfl, Ex.mut (Ex.mut (((ex.trans e2).trans e3).trans e4) hol0) hll0, upd_same, by rw [upd_ne (Ne.symm lo), upd_same, List.map_append]; rfl, ?_, hpeo.step hxm.1 ?_, by omega⟩
      · refine List.Perm.trans ?_ hperm
        rw [List.append_assoc]
        exact List.Perm.append_left ord (List.perm_cons_erase hxm.1).symm
      · intro y hy z hz h1 h2 h3
        exact clq_iff.mp hxm.2 y (List.mem_filter.mpr ⟨hy, (adjB_iff _ _ _).mpr h1⟩) z (List.mem_filter.mpr ⟨hz, (adjB_iff _ _ _).mpr h2⟩) h3
    · have h0 : lf = [] := by
        have := of_decide_eq_false hb
        rw [List.length_map] at this
        exact List.length_eq_zero_iff.mp (by omega)
      subst h0
      rw [List.append_nil] at hperm hnd hrg
      refine go_ret (go_cb1 ?_)
      refine ⟨_, rfl, ol, _, rfl, .inl ⟨sq_of (e2 _ _ ho), fun t ht => ?_⟩⟩
      refine q1 ord t _ ((ex.trans e2).trans (Ex.new ht)) ⟨hnd, hrg, by simp at hlen; omega⟩ (by simp at hlen; omega) ?_ (st_of upd_same)
      intro k hk y hy z hz h1 h2 h3
      exact hpeo k hk y z (.inl hy) (.inl hz) h1 h2 h3
theorem sc_decide_chordal : FnScope ["graph", "hole"] ["graph"] (defScope (top 90)) := ⟨rfl, rfl, rfl, by decide +kernel, rfl, by decide +kernel, by decide +kernel⟩
theorem ok_decide_chordal (D : DefAt K mg "decide_chordal" 90) (B : Bt mg) (c_find_hole : Ca P w K mg base 3 "find_hole" (sp_find_hole K)) (c_clique_order : Ca P w K mg base 4 "clique_order" (sp_clique_order K)) : Ca P w K mg base 5 "decide_chordal" (sp_decide_chordal K) := by
  refine D.mk (k := 4) sc_decide_chordal (fun _ _ _ _ _ _ us hl => match us, hl with | [_], _ => rfl) (fun vs H Q E h => ?_) (fun f cdv A outer s H vs Q E hr h => ?_)
  · obtain ⟨_, ⟨g, n, es, rfl, _⟩, _⟩ := h
    rfl
  · obtain ⟨_, ⟨g, n, es, rfl, G, O, rfl⟩, q⟩ := h
    have hu := hu_of hr
    have hu65 := hu65_of hr
    have sc := sc_decide_chordal
    refine ⟨_, (pss_cons (ps_set (i := 1) sc.nd rfl (by first | exact Or.inl rfl | exact Or.inr rfl) (pe_c c_find_hole hr (by decide) (by rfl) (pa_cons (pv 0) pa_nil)))
      (pss_one (ps_ret (pe_ifExp (pt_cmpR op_isN (pv 1) pe_non (nomark _)) (pe_tup (pa_cons pe_str (pa_cons (pe_c c_clique_order hr (by decide) (by rfl) (pa_cons (pv 0) pa_nil)) pa_nil))) (pe_tup (pa_cons pe_str (pa_cons (pv 1) pa_nil))))))), ?_⟩
    refine go_seqA ⟨_, rfl, g, n, es, rfl, G, O, fun H1 e1 NH => ?_, fun hh t H1 e1 HP hg hT => ?_⟩
    · refine ⟨_, rfl, rfl, _, rfl, ?_⟩
      rw [decide_eq_true rfl]
      refine iteT ?_
      refine ⟨_, rfl, g, n, es, rfl, G.ex e1, O, NH, fun ks t H2 e2 hg hn hP hT => ⟨by show 2 ≤ sizeLine; decide, fun p hp => ?_⟩⟩
      exact q _ _ ((e1.trans e2).trans (Ex.new hp)) ⟨p, t, ks, rfl, ex_t (Ex.new hp) hT, hg, .inl ⟨st_of upd_same, hn, hP, NH⟩⟩
    · refine ⟨_, rfl, rfl, _, rfl, ?_⟩
      rw [decide_eq_false (by simp)]
      refine iteF ?_
      refine ⟨_, rfl, by show 2 ≤ sizeLine; decide, fun p hp => ?_⟩
      exact q _ _ (e1.trans (Ex.new hp)) ⟨p, t, hh, rfl, ex_t (Ex.new hp) hT, hg, .inr ⟨st_of upd_same, HP⟩⟩
end
end Tr
namespace Tr
open PySem PySem.Spec PyProof.Rows L2 Evl StX
open C8 (Cal pe_c pe_gc)
section
variable {P : Program} {w : World} {K : PySem.W.Frag} {mg : Str → Option Value} {base : Heap}
theorem sc_is_question : FnScope ["graph", "value", "kind", "_", "s", "t", "k"] ["graph", "value"] (defScope (top 185)) := ⟨rfl, rfl, rfl, by decide +kernel, rfl, by decide +kernel, by decide +kernel⟩
theorem ok_is_question (D : DefAt K mg "is_question" 185) (B : Bt mg) {ak : Addr} (hkinds : ∃ u, mg "PLAIN_KINDS" = some u ∧ RelV (.ref ak) u) (hk : ∀ H, SqT K H ak kindsV) : Ca P w K mg base 1 "is_question" (sp_is_question K) := by
  refine D.mk (k := 0) sc_is_question (fun _ _ _ _ _ _ us hl => match us, hl with | [_, _], _ => rfl) (fun vs H Q E h => ?_) (fun f cdv A outer s H vs Q E hr h => ?_)
  · obtain ⟨_, ⟨g, t, rfl, _⟩, _⟩ := h
    rfl
  · obtain ⟨_, ⟨g, t, rfl, hT, rfl⟩, q⟩ := h
    have hu := hu_of hr
    have hu65 := hu65_of hr
    have sc := sc_is_question
    refine ⟨_, (pss_cons (ps_if (PW.pt (pw_or (pt_not (pt_val (pe_callB (isiS K) (by rfl) B.isinstance_ (by decide +kernel) (pa_cons (pv 1) (pa_cons (pe_bltn (v := .ty "tuple") (by rfl) B.tuple_ (by decide +kernel) rfl) pa_nil))))) (pw_or (pt_cmpR op_eq (pe_callB (lenS K) (by rfl) B.len_ PySem.boot_len (pa_cons (pv 1) pa_nil)) pe_int (nomark _)) (pw_or1 (pt_not (pt_val (pe_callB (isiS K) (by rfl) B.isinstance_ (by decide +kernel) (pa_cons (pe_ix (ixT K) (pv 1) pe_int (fun _ _ => rfl)) (pa_cons (pe_bltn (v := .ty "str") (by rfl) B.str_ (by decide +kernel) rfl) pa_nil))))))))) (pss_one (ps_ret pe_bl)) pss_nil)
      (pss_cons (ps_set (i := 2) sc.nd rfl (by first | exact Or.inl rfl | exact Or.inr rfl) (pe_ix (ixT K) (pv 1) pe_int (fun _ _ => rfl)))
      (pss_cons (ps_if (pt_cmpR (inS K) (pv 2) (pe_gc (by rfl) hkinds) (by rfl)) (pss_one (ps_ret (pe_cmpR op_eq (pe_callB (lenS K) (by rfl) B.len_ PySem.boot_len (pa_cons (pv 1) pa_nil)) pe_int (nomark _)))) pss_nil)
      pss_never))), ?_⟩
    refine q_when (b := false) (et_is (et_or (et_not (et_B (ev_isi (b := true) (ev_var rfl) (ty_t hT) (by decide +kernel)))) fun _ => et_or (et_test (ev_eqI (ev_lenT (ev_var rfl) hT) ev_c)) fun _ => et_not (et_B (ev_isi (b := true) (ev_ixT (j := 0) (ev_var rfl) ev_c hT rfl) (.base (.str _)) (by decide +kernel)))) (by decide)) (fun z => nomatch z) fun _ H1 e1 => ?_
    have hT1 := ex_t e1 hT
    refine q_asg (v := .str "chordal") (ev_ixT (j := 0) (ev_var rfl) ev_c hT1 rfl) fun H2 e2 => ?_
    have hT2 := ex_t e2 hT1
    refine q_when (b := true) (et_is (et_test (ev_op (ev_var rfl) ev_c (rv_isT (hk _) rfl (by decide +kernel)))) (by decide +kernel)) (fun _ H3 e3 => ?_) (fun z => nomatch z)
    exact s_ret (v := .bl true) (ev_is (ev_eqI (ev_lenT (ev_var rfl) (ex_t e3 hT2)) ev_c) (by decide)) fun H4 e4 => q _ _ (((e1.trans e2).trans e3).trans e4) rfl
theorem sc_check_question : FnScope ["graph", "question"] ["graph", "question"] (defScope (top 186)) := ⟨rfl, rfl, rfl, by decide +kernel, rfl, by decide +kernel, by decide +kernel⟩
theorem ok_check_question (D : DefAt K mg "check_question" 186) (B : Bt mg) (c_is_question : Ca P w K mg base 1 "is_question" (sp_is_question K)) : Ca P w K mg base 2 "check_question" (sp_check_question K) := by
  refine D.mk (k := 1) sc_check_question (fun _ _ _ _ _ _ us hl => match us, hl with | [_, _], _ => rfl) (fun vs H Q E h => ?_) (fun f cdv A outer s H vs Q E hr h => ?_)
  · obtain ⟨_, ⟨g, t, rfl, _⟩, _⟩ := h
    rfl
  · obtain ⟨_, ⟨g, t, rfl, hT, rfl⟩, q⟩ := h
    have hu := hu_of hr
    have hu65 := hu65_of hr
    have sc := sc_check_question
    refine ⟨_, (pss_one (ps_if (pt_not (pt_val (pe_c c_is_question hr (by decide) (by rfl) (pa_cons (pv 0) (pa_cons (pv 1) pa_nil))))) pss_never pss_nil)), ?_⟩
    exact s_when (b := false) (et_is (et_not (et_B (ev_call2 (ev_var rfl) (ev_var rfl) (sv_isq hT)))) rfl) (fun z => nomatch z) fun _ H1 e1 => q _ _ e1 rfl
theorem sc_decide_plain : FnScope ["graph", "kind"] ["graph", "kind"] (defScope (top 221)) := ⟨rfl, rfl, rfl, by decide +kernel, rfl, by decide +kernel, by decide +kernel⟩
theorem ok_decide_plain (D : DefAt K mg "decide_plain" 221) (B : Bt mg) (c_decide_chordal : Ca P w K mg base 5 "decide_chordal" (sp_decide_chordal K)) : Ca P w K mg base 6 "decide_plain" (sp_decide_plain K) := by
  refine D.mk (k := 5) sc_decide_plain (fun _ _ _ _ _ _ us hl => match us, hl with | [_, _], _ => rfl) (fun vs H Q E h => ?_) (fun f cdv A outer s H vs Q E hr h => ?_)
  · obtain ⟨_, ⟨g, n, es, rfl, _⟩, _⟩ := h
    rfl
  · obtain ⟨_, ⟨g, n, es, rfl, G, O, rfl⟩, q⟩ := h
    have hu := hu_of hr
    have hu65 := hu65_of hr
    have sc := sc_decide_plain
    refine ⟨_, (pss_cons (ps_if (pt_cmpR op_eq (pv 1) pe_str (nomark _)) pss_never pss_nil)
      (pss_cons (ps_if (pt_cmpR op_eq (pv 1) pe_str (nomark _)) pss_never pss_nil)
      (pss_cons (ps_if (pt_cmpR op_eq (pv 1) pe_str (nomark _)) pss_never pss_nil)
      (pss_cons (ps_if (pt_cmpR op_eq (pv 1) pe_str (nomark _)) pss_never pss_nil)
      (pss_cons (ps_if (pt_cmpR op_eq (pv 1) pe_str (nomark _)) (pss_one (ps_ret (pe_c c_decide_chordal hr (by decide) (by rfl) (pa_cons (pv 0) pa_nil)))) pss_nil)
      (pss_cons (ps_if (pt_cmpR op_eq (pv 1) pe_str (nomark _)) pss_never pss_nil)
      (pss_cons (ps_if (pt_cmpR op_eq (pv 1) pe_str (nomark _)) pss_never pss_nil)
      (pss_cons (ps_if (pt_cmpR op_eq (pv 1) pe_str (nomark _)) pss_never pss_nil)
      (pss_cons (ps_if (pt_cmpR op_eq (pv 1) pe_str (nomark _)) pss_never pss_nil)
      (pss_cons (ps_if (pt_cmpR op_eq (pv 1) pe_str (nomark _)) pss_never pss_nil)
      pss_never)))))))))), ?_⟩
    refine q_when (b := false) (et_eqS (ev_var rfl) ev_c (by decide)) (fun z => nomatch z) fun _ H1 e1 => ?_
    refine q_when (b := false) (et_eqS (ev_var rfl) ev_c (by decide)) (fun z => nomatch z) fun _ H2 e2 => ?_
    refine q_when (b := false) (et_eqS (ev_var rfl) ev_c (by decide)) (fun z => nomatch z) fun _ H3 e3 => ?_
    refine q_when (b := false) (et_eqS (ev_var rfl) ev_c (by decide)) (fun z => nomatch z) fun _ H4 e4 => ?_
    refine q_when (b := true) (et_eqS (ev_var rfl) ev_c (by decide)) (fun _ H5 e5 => ?_) (fun z => nomatch z)
    have e := (((e1.trans e2).trans e3).trans e4).trans e5
    exact go_ret ⟨_, rfl, _, ⟨g, n, es, rfl, G.ex e, O, rfl⟩, fun v H6 e6 hv => q _ _ (e.trans e6) hv⟩
theorem sc_decide : FnScope ["graph", "question", "kind"] ["graph", "question"] (defScope (top 223)) := ⟨rfl, rfl, rfl, by decide +kernel, rfl, by decide +kernel, by decide +kernel⟩
theorem ok_decide (D : DefAt K mg "decide" 223) (B : Bt mg) (c_check_question : Ca P w K mg base 2 "check_question" (sp_check_question K)) (c_decide_plain : Ca P w K mg base 6 "decide_plain" (sp_decide_plain K)) {ak : Addr} (hkinds : ∃ u, mg "PLAIN_KINDS" = some u ∧ RelV (.ref ak) u) (hk : ∀ H, SqT K H ak kindsV) : Ca P w K mg base 7 "decide" (sp_decide K) := by
  refine D.mk (k := 6) sc_decide (fun _ _ _ _ _ _ us hl => match us, hl with | [_, _], _ => rfl) (fun vs H Q E h => ?_) (fun f cdv A outer s H vs Q E hr h => ?_)
  · obtain ⟨_, ⟨g, n, es, t, rfl, _⟩, _⟩ := h
    rfl
  · obtain ⟨_, ⟨g, n, es, t, rfl, hT, G, O, rfl⟩, q⟩ := h
    have hu := hu_of hr
    have hu65 := hu65_of hr
    have sc := sc_decide
    refine ⟨_, (pss_cons (ps_expr (pe_c c_check_question hr (by decide) (by rfl) (pa_cons (pv 0) (pa_cons (pv 1) pa_nil))))
      (pss_cons (ps_set (i := 2) sc.nd rfl (by first | exact Or.inl rfl | exact Or.inr rfl) (pe_ix (ixT K) (pv 1) pe_int (fun _ _ => rfl)))
      (pss_cons (ps_if (pt_cmpR (inS K) (pv 2) (pe_gc (by rfl) hkinds) (by rfl)) (pss_one (ps_ret (pe_c c_decide_plain hr (by decide) (by rfl) (pa_cons (pv 0) (pa_cons (pv 2) pa_nil))))) pss_nil)
      (pss_cons (ps_if (pt_cmpR op_eq (pv 2) pe_str (nomark _)) pss_never pss_nil)
      pss_never)))), ?_⟩
    refine go_seq (go_drop (ev_call2 (ev_var rfl) (ev_var rfl) (sv_chq hT) H (Ex.refl H) _ fun H1 e1 => ?_))
    refine q_asg (v := .str "chordal") (ev_ixT (j := 0) (ev_var rfl) ev_c (ex_t e1 hT) rfl) fun H2 e2 => ?_
    refine q_when (b := true) (et_is (et_test (ev_op (ev_var rfl) ev_c (rv_isT (hk _) rfl (by decide +kernel)))) (by decide +kernel)) (fun _ H3 e3 => ?_) (fun z => nomatch z)
    have e := (e1.trans e2).trans e3
    exact go_ret ⟨_, rfl, _, rfl, _, ⟨g, n, es, rfl, G.ex e, O, rfl⟩, fun v H6 e6 hv => q _ _ (e.trans e6) hv⟩
theorem sc_check_plain : FnScope ["graph", "kind", "answer", "data"] ["graph", "kind", "answer", "data"] (defScope (top 225)) := ⟨rfl, rfl, rfl, by decide +kernel, rfl, by decide +kernel, by decide +kernel⟩
theorem ok_check_plain (D : DefAt K mg "check_plain" 225) (B : Bt mg) (c_check_chordal : Ca P w K mg base 7 "check_chordal" (sp_check_chordal K)) : Ca P w K mg base 8 "check_plain" (sp_check_plain K) := by
  refine D.mk (k := 7) sc_check_plain (fun _ _ _ _ _ _ us hl => match us, hl with | [_, _, _, _], _ => rfl) (fun vs H Q E h => ?_) (fun f cdv A outer s H vs Q E hr h => ?_)
  · obtain ⟨_, ⟨g, t, h, _⟩, _⟩ := h
    rcases h with ⟨rfl, _⟩ | ⟨rfl, _⟩ <;> rfl
  · obtain ⟨_, ⟨g, t, h, rfl⟩, q⟩ := h
    have hu := hu_of hr
    have hu65 := hu65_of hr
    have sc := sc_check_plain
    refine ⟨_, (pss_cons (ps_if (pt_cmpR op_eq (pv 1) pe_str (nomark _)) pss_never pss_nil)
      (pss_cons (ps_if (pt_cmpR op_eq (pv 1) pe_str (nomark _)) pss_never pss_nil)
      (pss_cons (ps_if (pt_cmpR op_eq (pv 1) pe_str (nomark _)) pss_never pss_nil)
      (pss_cons (ps_if (pt_cmpR op_eq (pv 1) pe_str (nomark _)) pss_never pss_nil)
      (pss_cons (ps_if (pt_cmpR op_eq (pv 1) pe_str (nomark _)) (pss_one (ps_ret (pe_c c_check_chordal hr (by decide) (by rfl) (pa_cons (pv 0) (pa_cons (pv 2) (pa_cons (pv 3) pa_nil)))))) pss_nil)
      (pss_cons (ps_if (pt_cmpR op_eq (pv 1) pe_str (nomark _)) pss_never pss_nil)
      (pss_cons (ps_if (pt_cmpR op_eq (pv 1) pe_str (nomark _)) pss_never pss_nil)
      (pss_cons (ps_if (pt_cmpR op_eq (pv 1) pe_str (nomark _)) pss_never pss_nil)
      (pss_cons (ps_if (pt_cmpR op_eq (pv 1) pe_str (nomark _)) pss_never pss_nil)
      (pss_cons (ps_if (pt_cmpR op_eq (pv 1) pe_str (nomark _)) pss_never pss_nil)
      (pss_cons (ps_if (pt_cmpR op_eq (pv 1) pe_str (nomark _)) pss_never pss_nil)
      pss_never))))))))))), ?_⟩
    obtain ⟨a, rfl, h9⟩ : ∃ a, vs = [g, .str "chordal", a, .ref t] ∧ ((a = .str "no" ∧ HoleArg K H g t) ∨ (a = .str "yes" ∧ PeoArg K H g t)) := by
      rcases h with ⟨h, h2⟩ | ⟨h, h2⟩
      · exact ⟨_, h, .inl ⟨rfl, h2⟩⟩
      · exact ⟨_, h, .inr ⟨rfl, h2⟩⟩
    refine q_when (b := false) (et_eqS (ev_var rfl) ev_c (by decide)) (fun z => nomatch z) fun _ H1 e1 => ?_
    refine q_when (b := false) (et_eqS (ev_var rfl) ev_c (by decide)) (fun z => nomatch z) fun _ H2 e2 => ?_
    refine q_when (b := false) (et_eqS (ev_var rfl) ev_c (by decide)) (fun z => nomatch z) fun _ H3 e3 => ?_
    refine q_when (b := false) (et_eqS (ev_var rfl) ev_c (by decide)) (fun z => nomatch z) fun _ H4 e4 => ?_
    refine q_when (b := true) (et_eqS (ev_var rfl) ev_c (by decide)) (fun _ H5 e5 => ?_) (fun z => nomatch z)
    have e := (((e1.trans e2).trans e3).trans e4).trans e5
    have h5 : (a = .str "no" ∧ HoleArg K H5 g t) ∨ (a = .str "yes" ∧ PeoArg K H5 g t) := by
      rcases h9 with ⟨ea, h⟩ | ⟨ea, h⟩
      · exact .inl ⟨ea, h.ex e⟩
      · exact .inr ⟨ea, h.ex e⟩
    exact s_ret (v := .bl true) (ev_call3 (ev_var rfl) (ev_var rfl) (ev_var rfl) (sv_cch h5)) fun H6 e6 => q _ _ (e.trans e6) rfl
theorem sc_check : FnScope ["graph", "question", "paper", "answer", "data"] ["graph", "question", "paper"] (defScope (top 227)) := ⟨rfl, rfl, rfl, by decide +kernel, rfl, by decide +kernel, by decide +kernel⟩
theorem ok_check (D : DefAt K mg "check" 227) (B : Bt mg) (c_check_question : Ca P w K mg base 2 "check_question" (sp_check_question K)) (c_check_plain : Ca P w K mg base 8 "check_plain" (sp_check_plain K)) {ak : Addr} (hkinds : ∃ u, mg "PLAIN_KINDS" = some u ∧ RelV (.ref ak) u) (hk : ∀ H, SqT K H ak kindsV) : Ca P w K mg base 9 "check" (sp_check K) := by
  refine D.mk (k := 8) sc_check (fun _ _ _ _ _ _ us hl => match us, hl with | [_, _, _], _ => rfl) (fun vs H Q E h => ?_) (fun f cdv A outer s H vs Q E hr h => ?_)
  · obtain ⟨_, ⟨g, n, es, t, x, rfl, _⟩, _⟩ := h
    rfl
  · obtain ⟨_, ⟨g, n, es, t, x, rfl, hT, G, O, HP, rfl⟩, q⟩ := h
    have hu := hu_of hr
    have hu65 := hu65_of hr
    have sc := sc_check
    refine ⟨_, (pss_cons (ps_expr (pe_c c_check_question hr (by decide) (by rfl) (pa_cons (pv 0) (pa_cons (pv 1) pa_nil))))
      (pss_cons (ps_if (PW.pt (pw_or (pt_not (pt_val (pe_callB (isiS K) (by rfl) B.isinstance_ (by decide +kernel) (pa_cons (pv 2) (pa_cons (pe_bltn (v := .ty "tuple") (by rfl) B.tuple_ (by decide +kernel) rfl) pa_nil))))) (pw_or (pt_cmpR op_ne (pe_callB (lenS K) (by rfl) B.len_ PySem.boot_len (pa_cons (pv 2) pa_nil)) pe_int (nomark _)) (pw_or1 (pt_cmpR (niS K) (pe_ix (ixT K) (pv 2) pe_int (fun _ _ => rfl)) (pe_tup (pa_cons pe_str (pa_cons pe_str pa_nil))) (by rfl)))))) (pss_one (ps_ret pe_bl)) pss_nil)
      (pss_cons (ps_asg (pv 2) (pgT (n := 2) K (pgs_cons (pg_name (i := 3) sc.nd rfl (by first | exact Or.inl rfl | exact Or.inr rfl)) (pgs_cons (pg_name (i := 4) sc.nd rfl (by first | exact Or.inl rfl | exact Or.inr rfl)) pgs_nil))))
      (pss_cons (ps_if (pt_cmpR (inS K) (pe_ix (ixT K) (pv 1) pe_int (fun _ _ => rfl)) (pe_gc (by rfl) hkinds) (by rfl)) (pss_one (ps_ret (pe_c c_check_plain hr (by decide) (by rfl) (pa_cons (pv 0) (pa_cons (pe_ix (ixT K) (pv 1) pe_int (fun _ _ => rfl)) (pa_cons (pv 3) (pa_cons (pv 4) pa_nil))))))) pss_nil)
      (pss_cons (ps_if (pt_cmpR op_eq (pe_ix (ixT K) (pv 1) pe_int (fun _ _ => rfl)) pe_str (nomark _)) pss_never pss_nil)
      pss_never))))), ?_⟩
    obtain ⟨p, tt, ks, rfl, hks, hg, h⟩ := HP
    obtain ⟨a, hp, ha, hA⟩ : ∃ a, SqT K H p [.str a, .ref tt] ∧ (a = "yes" ∨ a = "no") ∧ ((V.str a = V.str "no" ∧ HoleArg K H g tt) ∨ (V.str a = V.str "yes" ∧ PeoArg K H g tt)) := by
      rcases h with ⟨h1, h2, h3, h4⟩ | ⟨h1, h2⟩
      · exact ⟨"yes", h1, .inl rfl, .inr ⟨rfl, n, es, ks, G, hks, hg, O, h2, h3⟩⟩
      · exact ⟨"no", h1, .inr rfl, .inl ⟨rfl, n, es, ks, G, hks, hg, O, h2⟩⟩
    refine go_seq (go_drop (ev_call2 (ev_var rfl) (ev_var rfl) (sv_chq hT) H (Ex.refl H) _ fun H1 e1 => ?_))
    have hp1 := ex_t e1 hp
    refine q_when (b := false) (et_is (et_or (et_not (et_B (ev_isi (b := true) (ev_var rfl) (ty_t hp1) (by decide +kernel)))) fun _ => et_or (et_test (ev_neI (ev_lenT (ev_var rfl) hp1) ev_c)) fun _ => et_test (ev_niU (xs := [.str "yes", .str "no"]) (ev_ixT (j := 0) (ev_var rfl) ev_c hp1 rfl) (eu_tup (ea_cons ev_c (ea_cons ev_c ea_nil)) (by decide)) rfl rfl)) (by
      rcases ha with rfl | rfl <;> rfl)) (fun z => nomatch z) fun _ H2 e2 => ?_
    have hp2 := ex_t e2 hp1
    refine go_seq ⟨.ref p, rfl, p, _, rfl, hp2, rfl, _, _, rfl, _, _, rfl, rfl, ?_⟩
    refine q_when (b := true) (et_is (et_test (ev_op (ev_ixT (j := 0) (ev_var rfl) ev_c (ex_t (e1.trans e2) hT) rfl) ev_c (rv_isT (hk _) rfl (by decide +kernel)))) (by decide +kernel)) (fun _ H3 e3 => ?_) (fun z => nomatch z)
    have e := (e1.trans e2).trans e3
    have h5 : (V.str a = .str "no" ∧ HoleArg K H3 g tt) ∨ (V.str a = .str "yes" ∧ PeoArg K H3 g tt) := by
      rcases hA with ⟨ea, h⟩ | ⟨ea, h⟩
      · exact .inl ⟨ea, h.ex e⟩
      · exact .inr ⟨ea, h.ex e⟩
    refine s_ret (v := .bl true) (ev_call (ea_cons (ev_var rfl) (ea_cons (ev_ixT (j := 0) (ev_var rfl) ev_c (ex_t e hT) rfl) (ea_cons (ev_var rfl) (ea_cons (ev_var rfl) ea_nil)))) (sv_cpl h5)) fun H6 e6 => q _ _ (e.trans e6) rfl
end
end Tr
namespace Tr
open PySem PySem.Spec PyProof.Rows L2 Evl StX
open C8 (Cal pe_c pe_gc)
section
variable {P : Program} {w : World} {K : PySem.W.Frag} {mg : Str → Option Value} {base : Heap}
theorem sh_int (k : Int) : SeqAt.shaped (.int k) = true := shaped_of (by simp [PyData.canLay0]) (by simp [PyData.depth])
theorem eqv_nil (l : List PyData) : PyData.eqv (.list l) (.list []) = decide (l = []) := by
  cases l <;> simp [PyData.eqv, PyData.eqvAll]
theorem sc_law_distinct : FnScope ["_law_rows", "_law_found", "_law_row"] ["_law_rows"] (defScope (top 233)) := ⟨rfl, rfl, rfl, by decide +kernel, rfl, by decide +kernel, by decide +kernel⟩
theorem ok_law_distinct (D : DefAt K mg "_law_distinct" 233) (B : Bt mg) : Ca P w K mg base 1 "_law_distinct" (sp_law_distinct K) := by
  refine D.mk (k := 0) sc_law_distinct (fun _ _ _ _ _ _ us hl => match us, hl with | [_], _ => rfl) (fun vs H Q E h => ?_) (fun f cdv A outer s H vs Q E hr h => ?_)
  · obtain ⟨_, h, _⟩ := h
    rcases h with ⟨p, ks, rfl, _⟩ | ⟨p, xs, ps, rfl, _⟩ <;> rfl
  · obtain ⟨_, h, q⟩ := h
    have hu := hu_of hr
    have hu65 := hu65_of hr
    have sc := sc_law_distinct
    refine ⟨_, (pss_cons (ps_set (i := 1) sc.nd rfl (by first | exact Or.inl rfl | exact Or.inr rfl) (pe_lst pa_nil))
      (pss_cons (ps_for PassesOwn.never rfl (piL K (pe_callB (srtB K) (by rfl) B.sorted_ (by decide +kernel) (pa_cons (pv 0) pa_nil))) (pg_name (i := 2) sc.nd rfl (by first | exact Or.inl rfl | exact Or.inr rfl)) (pss_one (ps_if (PW.pt (pw_or (pt_cmpR (eqD K hu65) (pv 1) (pe_lst pa_nil) (nomark _)) (pw_or1 (pt_cmpR (neD K hu65) (pe_ix (ixL K) (pv 1) (pe_un un_neg pe_int) (fun _ _ => rfl)) (pv 2) (nomark _))))) (pss_one (ps_expr (bmS K PySem.F.plainAttrs_list PySem.F.slot_list_append PySem.F.type_list_append mt_append (pv 1) (pa_cons (pv 2) pa_nil)))) pss_nil)))
      (pss_one (ps_ret (pv 1))))), ?_⟩
    rcases h with ⟨p, ks, rfl, hp, hnd, hz, rfl⟩ | ⟨p, xs, ps, rfl, hp, hps, hz, rfl⟩
    · refine q_asgL (xs := []) (el_lst ea_nil (by decide)) fun F H1 hF e1 hF1 => ?_
      refine go_seq ⟨_, rfl, .inl ⟨p, ks, rfl, ex_l e1 hp, fun ns l hpm hsr hl => ?_⟩⟩
      have hlen := hpm.length_eq
      have e2 : Ex H1 (upd H1 l (.lst (ns.map V.int))) := Ex.new hl
      have lF : l ≠ F := fun z => by
        subst z
        rw [hF1] at hl
        cases hl
      have hst : ∀ i j (hi : i < ns.length) (hj : j < ns.length), i < j → ns[i] ≠ ns[j] := fun i j hi hj hij e => by
        have nd := hpm.nodup_iff.mpr hnd
        have := (List.getElem_inj nd).mp e
        omega
      refine q_forLn (tl := tC (.ref l)) (xs := ns.map V.int) (K := K) (D := { nx := fun _ H' => Q .non H', rt := Q }) ev_c (sq_of upd_same) (fun i σ' H' => (∃ x, σ' = [some (.ref p), some (.ref F), x]) ∧ Ex H H' ∧ H' l = some (.lst (ns.map V.int)) ∧ H' F = some (.lst ((ns.take i).map V.int)))
        (fun H3 e3 => ⟨⟨_, rfl⟩, (e1.trans e2).trans e3, e3 _ _ upd_same, e3 _ _ (e2 _ _ hF1)⟩) (fun i σ' H' _ h => sq_of h.2.2.1) (fun i x σ' H' hx h => ?_) (fun σ' H' h => ?_)
      · obtain ⟨⟨x0, rfl⟩, e3, hl3, hF3⟩ := h
        obtain ⟨k, hk, rfl⟩ : ∃ k, ns[i]? = some k ∧ x = .int k := by
          rw [List.getElem?_map] at hx
          cases hn : ns[i]? with
          | none =>
            rw [hn] at hx
            cases hx
          | some k =>
            rw [hn] at hx
            exact ⟨k, rfl, (Option.some.inj hx).symm⟩
        obtain ⟨hi, ek⟩ := List.getElem?_eq_some_iff.mp hk
        have tk : ns.take (i + 1) = ns.take i ++ [k] := by rw [List.take_add_one, hk]; rfl
        have sF : ∀ H4, Ex H' H4 → Dp K H4 (.ref F) (.list ((ns.take i).map PyData.int)) := fun H4 e => dp_ints_l (sq_of (e _ _ hF3))
        refine s_when (b := true) (et_is (b := true) (et_or (a := decide (ns.take i = [])) (b := true) (et_test ?_) fun hb => et_test ?_) (by simp)) (fun _ H4 e4 => ?_) (fun z => nomatch z)
        · refine ev_opL (xs := []) (ev_var rfl) (el_lst ea_nil (by decide)) fun pp H4 hpp e4 => rv_val fun H5 e5 Q5 q5 => ?_
          refine ⟨_, _, sF _ (e4.trans e5), .lst (sq_of (e5 _ _ hpp)) .nil, sh_intsL _, sh_intsL [], ?_⟩
          have : PyData.eqv (.list ((ns.take i).map PyData.int)) (.list []) = decide (ns.take i = []) := by
            simp only [PyData.eqv]
            exact eqv_ints (ns.take i) []
          rw [this]
          exact q5
        · have hne : ns.take i ≠ [] := of_decide_eq_false hb
          have h0 : 0 < i := by
            rcases Nat.eq_zero_or_pos i with z | z
            · subst z
              exact absurd rfl hne
            · exact z
          have hl : ((ns.take i).map V.int)[((ns.take i).map V.int).length - 1]? = some (.int (ns[i - 1]'(by omega))) := by
            rw [List.length_map, List.length_take, Nat.min_eq_left (by omega), List.getElem?_map, List.getElem?_take_of_lt (by omega), List.getElem?_eq_getElem (by omega)]
            rfl
          refine ev_op (ev_last (ev_var rfl) (sq_of hF3) hl) (ev_var rfl) (rv_val fun H5 e5 Q5 q5 => ?_)
          refine ⟨_, _, .int _, .int _, sh_int _, sh_int _, ?_⟩
          have : PyData.eqv (.int (ns[i - 1]'(by omega))) (.int k) = false := by
            simp only [PyData.eqv]
            have := hst (i - 1) i (by omega) hi (by omega)
            rw [ek] at this
            simpa using this
          rw [this]
          exact q5
        · refine s_app (e4 _ _ hF3) (ev_var rfl) (ev_var rfl) (by rw [List.length_map, List.length_take]; omega) fun H5 e5 => ?_
          refine ⟨⟨_, rfl⟩, Ex.mut ((e3.trans e4).trans e5) hF, by rw [upd_ne lF]; exact e5 _ _ (e4 _ _ hl3), ?_⟩
          rw [upd_same, tk, List.map_append]
          rfl
      · obtain ⟨⟨x0, rfl⟩, e3, hl3, hF3⟩ := h
        rw [List.length_map, List.take_length] at hF3
        refine go_ret ⟨_, rfl, ?_⟩
        exact q _ _ e3 ⟨F, ns, rfl, hF, hF3, hlen⟩
    · refine q_asgL (xs := []) (el_lst ea_nil (by decide)) fun F H1 hF e1 hF1 => ?_
      have hps1 := pr_ex e1 hps
      obtain ⟨k1, k2⟩ := pr_k hps1
      refine go_seq ⟨_, rfl, .inr ⟨p, xs, kOf H1, rfl, ex_l e1 hp, k1, fun ys l hsr hst hl => ?_⟩⟩
      have hpm := hst.perm
      have e2 : Ex H1 (upd H1 l (.lst ys)) := Ex.new hl
      have lF : l ≠ F := fun z => by
        subst z
        rw [hF1] at hl
        cases hl
      have hys : PrAll H1 ys (ys.map (kOf H1)) := pr_of fun x hx => k1 x (hpm.mem_iff.mp hx)
      have hmem : ∀ r ∈ ys.map (kOf H1), r ∈ ps := fun r hr => by
        obtain ⟨x, hx, rfl⟩ := List.mem_map.mp hr
        rw [← k2]
        exact List.mem_map.mpr ⟨x, hpm.mem_iff.mp hx, rfl⟩
      have hlen : ys.length = ps.length := by
        rw [hpm.length_eq]
        exact pr_len hps
      refine q_forLn (tl := tC (.ref l)) (xs := ys) (K := K) (D := { nx := fun _ H' => Q .non H', rt := Q }) ev_c (sq_of upd_same) (fun i σ' H' => (∃ x, σ' = [some (.ref p), some (.ref F), x]) ∧ Ex H H' ∧ Tx H1 H' ∧ H' l = some (.lst ys) ∧ ∃ fs rs, H' F = some (.lst fs) ∧ PrAll H' fs rs ∧ rs.length ≤ i ∧ ∀ r ∈ rs, r ∈ ps)
        (fun H3 e3 => ⟨⟨_, rfl⟩, (e1.trans e2).trans e3, Tx.of (e2.trans e3), e3 _ _ upd_same, [], [], e3 _ _ (e2 _ _ hF1), trivial, Nat.zero_le _, fun r hr => nomatch hr⟩) (fun i σ' H' _ h => sq_of h.2.2.2.1) (fun i x σ' H' hx h => ?_) (fun σ' H' h => ?_)
      · obtain ⟨⟨x0, rfl⟩, e3, e13, hl3, fs, rs, hF3, hrs, hri, hrm⟩ := h
        obtain ⟨p2, t, hp2, rfl, ht⟩ := pr_at hys hx
        have ht3 := e13 _ _ ht rfl
        have hm2 : p2 ∈ ps := hmem _ (List.mem_of_getElem? hp2)
        have hlf := pr_len hrs
        have hi2 : i < ys.length := (List.getElem?_eq_some_iff.mp hx).1
        have A1 : EvT (tTest (tOp (rEqD K) (tVar 1) (tLst tNil))) [some (.ref p), some (.ref F), some (.ref t)] H' (decide (rs.map pD = [])) := et_test (ev_opL (xs := []) (ev_var rfl) (el_lst ea_nil (by decide)) fun pp H4 hpp e4 => rv_val fun H5 e5 Q5 q5 => by
          refine ⟨_, _, .lst (sq_of ((e4.trans e5) _ _ hF3)) (pr_dp (pr_ex (e4.trans e5) hrs)), .lst (sq_of (e5 _ _ hpp)) .nil, sh_pairsL _, sh_pairsL [], ?_⟩
          rw [eqv_nil]
          exact q5)
        obtain ⟨b, A2⟩ : ∃ b, EvT (tOr (tTest (tOp (rEqD K) (tVar 1) (tLst tNil))) (tTest (tOp (rNeD K) (tOp (rIxL K) (tVar 1) (tUn (rU fun i => .int (-i)) (tC (.int 1)))) (tVar 2)))) [some (.ref p), some (.ref F), some (.ref t)] H' b := by
          cases rs with
          | nil => exact ⟨_, et_or (b := true) A1 fun hb => absurd hb (by simp)⟩
          | cons r0 r1 =>
            have hfl : 0 < fs.length := by rw [hlf]; simp
            obtain ⟨p3, t3, h3p, h3t, h33⟩ := pr_at hrs (i := fs.length - 1) (x := fs[fs.length - 1]'(by omega)) (List.getElem?_eq_getElem (by omega))
            refine ⟨_, et_or (b := !PyData.eqv (pD p3) (pD p2)) A1 fun hb => et_test (ev_op (ev_last (v := .ref t3) (ev_var rfl) (sq_of hF3) (by rw [← h3t]; exact List.getElem?_eq_getElem (by omega))) (ev_var rfl) (rv_val fun H5 e5 Q5 q5 => ?_))⟩
            exact ⟨_, _, mk_pair (st_of (e5 _ _ h33)), mk_pair (st_of (e5 _ _ ht3)), sh_pair _, sh_pair _, q5⟩
        refine s_when A2 (fun _ H4 e4 => ?_) (fun _ H4 e4 => ⟨⟨_, rfl⟩, e3.trans e4, e13.trans (Tx.of e4), e4 _ _ hl3, fs, rs, e4 _ _ hF3, pr_ex e4 hrs, by omega, hrm⟩)
        refine s_app (e4 _ _ hF3) (ev_var rfl) (ev_var rfl) (by omega) fun H5 e5 => ?_
        have tx : Tx H5 (upd H5 F (.lst (fs ++ [.ref t]))) := Tx.upd ((e4.trans e5) _ _ hF3) rfl
        refine ⟨⟨_, rfl⟩, Ex.mut ((e3.trans e4).trans e5) hF, (e13.trans (Tx.of (e4.trans e5))).trans tx, by rw [upd_ne lF]; exact e5 _ _ (e4 _ _ hl3), fs ++ [.ref t], rs ++ [p2], upd_same, ?_, by rw [List.length_append]; simp; omega, ?_⟩
        · exact pr_app (pr_tx tx (pr_ex (e4.trans e5) hrs)) ⟨⟨t, rfl, tx _ _ ((e4.trans e5) _ _ ht3) rfl⟩, trivial⟩
        · intro r hr
          rcases List.mem_append.mp hr with hr | hr
          · exact hrm r hr
          · have : r = p2 := by simpa using hr
            rw [this]
            exact hm2
      · obtain ⟨⟨x0, rfl⟩, e3, e13, hl3, fs, rs, hF3, hrs, hri, hrm⟩ := h
        refine go_ret ⟨_, rfl, ?_⟩
        exact q _ _ e3 ⟨F, fs, rs, rfl, hF, hF3, hrs, by omega, hrm⟩
theorem sc_law_pairs : FnScope ["_law_n", "_law_found", "_law_u", "_law_v"] ["_law_n"] (defScope (top 234)) := ⟨rfl, rfl, rfl, by decide +kernel, rfl, by decide +kernel, by decide +kernel⟩
theorem ok_law_pairs (D : DefAt K mg "_law_pairs" 234) (B : Bt mg) : Ca P w K mg base 1 "_law_pairs" (sp_law_pairs K) := by
  refine D.mk (k := 0) sc_law_pairs (fun _ _ _ _ _ _ us hl => match us, hl with | [_], _ => rfl) (fun vs H Q E h => ?_) (fun f cdv A outer s H vs Q E hr h => ?_)
  · obtain ⟨_, ⟨n, rfl, _⟩, _⟩ := h
    rfl
  · obtain ⟨_, ⟨n, rfl, h0, h20, rfl⟩, q⟩ := h
    have hu := hu_of hr
    have hu65 := hu65_of hr
    have sc := sc_law_pairs
    refine ⟨_, (pss_cons (ps_set (i := 1) sc.nd rfl (by first | exact Or.inl rfl | exact Or.inr rfl) (pe_lst pa_nil))
      (pss_cons (ps_for PassesOwn.never rfl (pi_range1 (by rfl) B.range_ (pa_cons (pv 0) pa_nil)) (pg_name (i := 2) sc.nd rfl (by first | exact Or.inl rfl | exact Or.inr rfl)) (pss_one (ps_for PassesOwn.never rfl (pi_range2 (by rfl) B.range_ (pa_cons (pe_op op_add (pv 2) pe_int) (pa_cons (pv 0) pa_nil))) (pg_name (i := 3) sc.nd rfl (by first | exact Or.inl rfl | exact Or.inr rfl)) (pss_one (ps_expr (bmS K PySem.F.plainAttrs_list PySem.F.slot_list_append PySem.F.type_list_append mt_append (pv 1) (pa_cons (pe_tup (pa_cons (pv 2) (pa_cons (pv 3) pa_nil))) pa_nil)))))))
      (pss_one (ps_ret (pv 1))))), ?_⟩
    refine q_asgL (xs := []) (el_lst ea_nil (by decide)) fun F H1 hF e1 hF1 => ?_
    let rowOf : Int → List (Int × Int) := fun u => (rgI (u + 1) (n - (u + 1)).toNat).map fun v => (u, v)
    have hrow : ∀ u, 0 ≤ u → (rowOf u).length ≤ 20 := fun u hu => by
      show ((rgI (u + 1) (n - (u + 1)).toNat).map fun v => (u, v)).length ≤ 20
      rw [List.length_map, rgI_len]
      omega
    refine q_forR1 (n := n) (ea_cons (ev_var rfl) ea_nil) (by omega) (fun i σ' H' => (∃ x y, σ' = [some (.int n), some (.ref F), x, y]) ∧ Ex H H' ∧ ∃ acc, H' F = some (.lst acc) ∧ acc.length ≤ i * 20 ∧ DpAll K H' acc (((rgI 0 i).flatMap rowOf).map pD))
      (fun H2 e2 => ⟨⟨_, _, rfl⟩, e1.trans e2, [], e2 _ _ hF1, Nat.zero_le _, .nil⟩) (fun i σ' H' hi h => ?_) (fun σ' H' h => ?_)
    · obtain ⟨⟨x, y, rfl⟩, e2, acc, h2, hla, hd⟩ := h
      have es : (rgI 0 (i + 1)).flatMap rowOf = (rgI 0 i).flatMap rowOf ++ rowOf (i : Int) := by
        have : rgI 0 (i + 1) = rgI 0 i ++ [(i : Int)] := by
          unfold rgI
          rw [List.range_succ, List.map_append]
          simp
        rw [this, List.flatMap_append]
        simp
      refine s_forR2 (lo := (i : Int) + 1) (n := n) (ea_cons (ev_add (ev_var rfl) ev_c) (ea_cons (ev_var rfl) ea_nil)) ⟨by omega, by omega, by omega, by omega⟩
        (fun j σ2 H2 => (∃ y, σ2 = [some (.int n), some (.ref F), some (.int (i : Int)), y]) ∧ Ex H H2 ∧ ∃ acc, H2 F = some (.lst acc) ∧ acc.length ≤ i * 20 + j ∧ DpAll K H2 acc (((rgI 0 i).flatMap rowOf ++ (rgI ((i : Int) + 1) j).map fun v => ((i : Int), v)).map pD))
        (fun H3 e3 => ⟨⟨_, rfl⟩, e2.trans e3, acc, e3 _ _ h2, by omega, by
          have : (rgI ((i : Int) + 1) 0).map (fun v => ((i : Int), v)) = [] := rfl
          rw [this, List.append_nil]
          exact dpa_ex e3 hd⟩) (fun j σ2 H2 hj h => ?_) (fun σ2 H2 h => ?_)
      · obtain ⟨⟨y2, rfl⟩, e3, acc2, h3, hl3, hd3⟩ := h
        refine s_appU (xs := acc2) h3 (ev_var rfl) (eu_tup (ea_cons (ev_var rfl) (ea_cons (ev_var rfl) ea_nil)) (by show 2 ≤ 100000; decide)) (by omega) fun t H4 ht e4 h4 => ?_
        have h5 := e4 _ _ h3
        have tx : Tx H4 (upd H4 F (.lst (acc2 ++ [.ref t]))) := Tx.upd h5 rfl
        refine ⟨⟨_, rfl⟩, Ex.mut (e3.trans e4) hF, acc2 ++ [.ref t], upd_same, by rw [List.length_append]; simp; omega, ?_⟩
        have er : rgI ((i : Int) + 1) (j + 1) = rgI ((i : Int) + 1) j ++ [(i : Int) + 1 + (j : Int)] := by
          unfold rgI
          rw [List.range_succ, List.map_append]
          rfl
        have er2 : (rgI 0 i).flatMap rowOf ++ (rgI ((i : Int) + 1) j ++ [(i : Int) + 1 + (j : Int)]).map (fun v => ((i : Int), v)) = ((rgI 0 i).flatMap rowOf ++ (rgI ((i : Int) + 1) j).map fun v => ((i : Int), v)) ++ [((i : Int), (i : Int) + 1 + (j : Int))] := by
          rw [List.map_append, List.append_assoc]
          rfl
        rw [er, er2, List.map_append (f := pD)]
        exact dpa_app (dpa_tx tx (noLs_pairs _) (dpa_ex e4 hd3)) (.cons (mk_pair (st_of (tx _ _ h4 rfl))) .nil)
      · obtain ⟨⟨y2, rfl⟩, e3, acc2, h3, hl3, hd3⟩ := h
        refine ⟨⟨_, _, rfl⟩, e3, acc2, h3, by omega, ?_⟩
        rw [es]
        exact hd3
    · obtain ⟨⟨x, y, rfl⟩, e2, acc, h2, hla, hd⟩ := h
      refine go_ret ⟨_, rfl, ?_⟩
      exact q _ _ e2 ⟨F, acc, rfl, hF, h2, hd⟩
end
end Tr
namespace Tr
open PySem PySem.Spec PyProof.Rows L2 Evl StX
open C8 (Cal pe_c pe_gc)
section
variable {P : Program} {w : World} {K : PySem.W.Frag} {mg : Str → Option Value} {base : Heap}
theorem rg_nodup (lo : Int) (n : Nat) : (rgI lo n).Nodup := by
  unfold rgI
  rw [List.nodup_iff_pairwise_ne]
  refine List.pairwise_map.mpr (List.pairwise_iff_getElem.mpr fun i j hi hj hij => ?_)
  simp only [List.getElem_range]
  omega
theorem sc_law_of : FnScope ["_law_n", "_law_pairs_here", "_law_pair"] ["_law_n", "_law_pairs_here"] (defScope (top 235)) := ⟨rfl, rfl, rfl, by decide +kernel, rfl, by decide +kernel, by decide +kernel⟩
theorem ok_law_of (D : DefAt K mg "_law_of" 235) (B : Bt mg) (c_law_distinct : Ca P w K mg base 1 "_law_distinct" (sp_law_distinct K)) : Ca P w K mg base 2 "_law_of" (sp_law_of K) := by
  refine D.mk (k := 1) sc_law_of (fun _ _ _ _ _ _ us hl => match us, hl with | [_, _], _ => rfl) (fun vs H Q E h => ?_) (fun f cdv A outer s H vs Q E hr h => ?_)
  · obtain ⟨_, ⟨n, p, ps, rfl, _⟩, _⟩ := h
    rfl
  · obtain ⟨_, ⟨n, p, ps, rfl, ⟨xs, hp, hd⟩, hz, rfl⟩, q⟩ := h
    have hu := hu_of hr
    have hu65 := hu65_of hr
    have sc := sc_law_of
    refine ⟨_, (pss_one (ps_ret (pe_tup (pa_cons (pv 0) (pa_cons (pe_callTy (tupS K) (by rfl) B.tuple_ (by decide +kernel) (pa_cons (pe_c c_law_distinct hr (by decide) (by rfl) (pa_cons (pe_lc (own := [("_law_pair", 2)]) (by rfl) sc.nd (piL K (pv 1)) (blkOk_by (own := [("_law_pair", 2)]) (N := ["_law_n", "_law_pairs_here", "_law_pair"]) (sc := defScope (top 235)) (by decide +kernel)) (fun _ _ _ _ _ => (pg_name (i := 2) sc.nd rfl (by first | exact Or.inl rfl | exact Or.inr rfl))) (fun _ _ _ _ _ => pts_nil) (fun _ _ _ _ _ => (pe_tup (pa_cons (pe_callB (minP K hu65) (by rfl) B.min_ (by decide +kernel) (pa_cons (pv 2) pa_nil)) (pa_cons (pe_callB (maxP K hu65) (by rfl) B.max_ (by decide +kernel) (pa_cons (pv 2) pa_nil)) pa_nil))))) pa_nil)) pa_nil)) pa_nil))))), ?_⟩
    refine go_ret (go_tup (go_cons ⟨_, rfl, go_cons (go_cb (go_cons (go_call (go_cons (en_Pr (K := K) (σ := [some (.int n), some (.ref p), none]) (r := mmP) (vs := [2]) (g := gName 2) (enc := pD) (as := ps) (τ := fun _ x => [some (.int n), some (.ref p), some x]) (evd_v (ev_var rfl) (.lst hp hd)) (by omega) (fun a x H1 R hx hR => hR) (fun a x H1 hx => rfl)
      (fun a x H1 _ _ hx => eu_tup (ea_cons (ev_minP (ev_var rfl) hx) (ea_cons (ev_maxP (ev_var rfl) hx) ea_nil)) (by show 2 ≤ 100000; decide)) (Ex.refl H) fun l xs2 H2 hl e2 h2 hpr => ?_)))))⟩))
    refine ⟨_, .inr ⟨l, xs2, ps.map mmP, rfl, sq_of h2, hpr, by rw [List.length_map]; exact hz, rfl⟩, fun v H3 e3 hv => ?_⟩
    obtain ⟨l3, xs3, rs, rfl, hl3, h3, hpr3, hlen, hmem⟩ := hv
    refine go_graph (n := n) (es := rs) (sq_of h3) (pr_dp hpr3) fun t H4 e4 G4 => ?_
    rw [List.length_map] at hlen
    refine q _ _ ((e2.trans e3).trans e4) ⟨rs, G4, hlen, fun e he => ?_⟩
    obtain ⟨p, hp, rfl⟩ := List.mem_map.mp (hmem e he)
    exact ⟨p, hp, rfl⟩
theorem sc_law_moved : FnScope ["_law_graph_here", "_law_order", "_law_pair"] ["_law_graph_here", "_law_order"] (defScope (top 239)) := ⟨rfl, rfl, rfl, by decide +kernel, rfl, by decide +kernel, by decide +kernel⟩
theorem ok_law_moved (D : DefAt K mg "_law_moved" 239) (B : Bt mg) (c_law_of : Ca P w K mg base 2 "_law_of" (sp_law_of K)) : Ca P w K mg base 3 "_law_moved" (sp_law_moved K) := by
  refine D.mk (k := 2) sc_law_moved (fun _ _ _ _ _ _ us hl => match us, hl with | [_, _], _ => rfl) (fun vs H Q E h => ?_) (fun f cdv A outer s H vs Q E hr h => ?_)
  · obtain ⟨_, ⟨g, n, es, p, ks, rfl, _⟩, _⟩ := h
    rfl
  · obtain ⟨_, ⟨g, n, es, p, ks, rfl, G, O, hp, hpm, rfl⟩, q⟩ := h
    have hu := hu_of hr
    have hu65 := hu65_of hr
    have sc := sc_law_moved
    refine ⟨_, (pss_one (ps_ret (pe_c c_law_of hr (by decide) (by rfl) (pa_cons (pe_ix (ixT K) (pv 0) pe_int (fun _ _ => rfl)) (pa_cons (pe_lc (own := [("_law_pair", 2)]) (by rfl) sc.nd (piT K (pe_ix (ixT K) (pv 0) pe_int (fun _ _ => rfl))) (blkOk_by (own := [("_law_pair", 2)]) (N := ["_law_graph_here", "_law_order", "_law_pair"]) (sc := defScope (top 239)) (by decide +kernel)) (fun _ _ _ _ _ => (pg_name (i := 2) sc.nd rfl (by first | exact Or.inl rfl | exact Or.inr rfl))) (fun _ _ _ _ _ => pts_nil) (fun _ _ _ _ _ => (pe_tup (pa_cons (pe_ix (ixL K) (pv 1) (pe_ix (ixT K) (pv 2) pe_int (fun _ _ => rfl)) (fun _ _ => rfl)) (pa_cons (pe_ix (ixL K) (pv 1) (pe_ix (ixT K) (pv 2) pe_int (fun _ _ => rfl)) (fun _ _ => rfl)) pa_nil))))) pa_nil))))), ?_⟩
    have hlo := O.lo
    have hlen : ks.length = n.toNat := by rw [hpm.length_eq, rgI_len]
    have hnd : ks.Nodup := hpm.nodup_iff.mpr (rg_nodup 0 n.toNat)
    let mv : Int × Int → Int × Int := fun a => (ks.getD a.1.toNat 0, ks.getD a.2.toNat 0)
    refine go_ret (ev_n (ev_var rfl) G H (Ex.refl H) _ fun H1 e1 => ?_)
    have L := en_T (K := K) (H := H1) (σ := [some g, some (.ref p), none]) (tl := tOp (rIxT K) (tVar 0) (tC (.int 1))) (g := gName 2) (vs := [2]) (enc := pD) (as := es) (f := fun _ => true) (r := fun a => pD (mv a)) (t := tYes)
      (te := tTup (tCons (tOp (rIxL K) (tVar 1) (tOp (rIxT K) (tVar 2) (tC (.int 0)))) (tCons (tOp (rIxL K) (tVar 1) (tOp (rIxT K) (tVar 2) (tC (.int 1)))) tNil))) (τ := fun _ x => [some g, some (.ref p), some x])
      (evd_es (ev_var rfl) (G.ex e1)) (by have := O.len; omega) (fun a => noL_pair _) (fun a x H1 R hx hR => hR) (fun a x H1 hx => rfl) (fun a x H1 _ _ hx => et_yes)
      (fun a x H2 ha e2 hx _ => by
        have hgd := O.good a ha
        have hp2 := ex_l (e1.trans e2) hp
        exact evd_pair (ev_ixI (ev_var rfl) (ev_p0 (ev_var rfl) hx) hp2 (by omega) (by omega)) (ev_ixI (ev_var rfl) (ev_p1 (ev_var rfl) hx) hp2 (by omega) (by omega)))
    refine L H1 (Ex.refl H1) _ fun l xs H2 hl e2 h2 hd => ?_
    have ef : ((es.filter fun _ => true).map fun a => pD (mv a)) = (es.map mv).map pD := by
      rw [List.filter_eq_self.mpr fun _ _ => rfl, List.map_map]
      rfl
    rw [ef] at hd
    refine ⟨_, ⟨n, l, es.map mv, rfl, ⟨xs, sq_of h2, hd⟩, by rw [List.length_map]; have := O.len; omega, rfl⟩, fun v H3 e3 hv => ?_⟩
    obtain ⟨rs, G3, hl3, hm3⟩ := hv
    rw [List.length_map] at hl3
    refine q _ _ ((e1.trans e2).trans e3) ⟨rs, G3, O.lo, O.hi, by have := O.len; omega, fun e he => ?_⟩
    obtain ⟨a, ha, rfl⟩ := hm3 e he
    obtain ⟨b, hb, rfl⟩ := List.mem_map.mp ha
    have hgd := O.good b hb
    have hk : ∀ i : Int, 0 ≤ i → i < n → ∃ h : i.toNat < ks.length, ks.getD i.toNat 0 = ks[i.toNat] ∧ 0 ≤ ks[i.toNat] ∧ ks[i.toNat] < n := fun i h0 h1 => by
      have hj : i.toNat < ks.length := by omega
      refine ⟨hj, by rw [List.getD_eq_getElem?_getD, List.getElem?_eq_getElem hj, Option.getD_some], ?_⟩
      have := mem_rgI.mp (hpm.mem_iff.mp (List.getElem_mem hj))
      omega
    obtain ⟨j1, e4, h4⟩ := hk b.1 (by omega) (by omega)
    obtain ⟨j2, e5, h5⟩ := hk b.2 (by omega) (by omega)
    refine mm_good (n := n) (p := mv b) ?_ ?_ ?_
    · show 0 ≤ ks.getD b.1.toNat 0 ∧ ks.getD b.1.toNat 0 < n
      rw [e4]
      exact h4
    · show 0 ≤ ks.getD b.2.toNat 0 ∧ ks.getD b.2.toNat 0 < n
      rw [e5]
      exact h5
    · show ks.getD b.1.toNat 0 ≠ ks.getD b.2.toNat 0
      rw [e4, e5]
      intro z
      have := (List.getElem_inj hnd).mp z
      omega
theorem sc_law_other : FnScope ["_law_graph_here", "_law_pair"] ["_law_graph_here"] (defScope (top 240)) := ⟨rfl, rfl, rfl, by decide +kernel, rfl, by decide +kernel, by decide +kernel⟩
theorem ok_law_other (D : DefAt K mg "_law_other" 240) (B : Bt mg) (c_law_pairs : Ca P w K mg base 1 "_law_pairs" (sp_law_pairs K)) : Ca P w K mg base 2 "_law_other" (sp_law_other K) := by
  refine D.mk (k := 1) sc_law_other (fun _ _ _ _ _ _ us hl => match us, hl with | [_], _ => rfl) (fun vs H Q E h => ?_) (fun f cdv A outer s H vs Q E hr h => ?_)
  · obtain ⟨_, ⟨g, n, es, rfl, _⟩, _⟩ := h
    rfl
  · obtain ⟨_, ⟨g, n, es, rfl, G, O, rfl⟩, q⟩ := h
    have hu := hu_of hr
    have hu65 := hu65_of hr
    have sc := sc_law_other
    refine ⟨_, (pss_one (ps_ret (pe_tup (pa_cons (pe_ix (ixT K) (pv 0) pe_int (fun _ _ => rfl)) (pa_cons (pe_callTy (tupS K) (by rfl) B.tuple_ (by decide +kernel) (pa_cons (pe_lc (own := [("_law_pair", 1)]) (by rfl) sc.nd (piL K (pe_c c_law_pairs hr (by decide) (by rfl) (pa_cons (pe_ix (ixT K) (pv 0) pe_int (fun _ _ => rfl)) pa_nil))) (blkOk_by (own := [("_law_pair", 1)]) (N := ["_law_graph_here", "_law_pair"]) (sc := defScope (top 240)) (by decide +kernel)) (fun _ _ _ _ _ => (pg_name (i := 1) sc.nd rfl (by first | exact Or.inl rfl | exact Or.inr rfl))) (fun _ _ _ _ _ => (pts_one (pt_cmpR (niTu K hu65) (pv 1) (pe_ix (ixT K) (pv 0) pe_int (fun _ _ => rfl)) (by rfl)))) (fun _ _ _ _ _ => (pv 1))) pa_nil)) pa_nil))))), ?_⟩
    have hlo := O.lo
    have hhi := O.hi
    refine go_ret (ev_n (ev_var rfl) G H (Ex.refl H) _ fun H1 e1 => ?_)
    have L := en_L (K := K) (H := H1) (σ := [some g, none]) (tl := tCall (sp_law_pairs K) [] C8.E0 (tCons (tOp (rIxT K) (tVar 0) (tC (.int 0))) tNil)) (g := gName 1) (vs := [1]) (enc := pD) (as := rows2 n) (f := fun p => !decide (p ∈ es)) (r := pD)
      (te := tVar 1) (t := tTest (tOp (rInT K true) (tVar 1) (tOp (rIxT K) (tVar 0) (tC (.int 1))))) (τ := fun _ x => [some g, some x])
      (evd_pairs (ev_n (ev_var rfl) (G.ex e1)) (by omega) (by omega)) (by have := rows2_len (n := n) 7 (by omega); omega) noL_pair (fun a x H1 R hx hR => hR) (fun a x H1 hx => rfl)
      (fun a x H2 _ e2 hx => et_niP (evd_v (ev_var rfl) hx) (evd_es (ev_var rfl) (G.ex (e1.trans e2)))) (fun a x H2 _ _ hx _ => evd_v (ev_var rfl) hx)
    refine go_cons (go_cb (go_cons (L H1 (Ex.refl H1) _ fun l xs H2 hl e2 h2 hd => ?_)))
    refine go_graph (n := n) (es := (rows2 n).filter fun p => !decide (p ∈ es)) (sq_of h2) hd fun t H4 e4 G4 => ?_
    exact q _ _ ((e1.trans e2).trans e4) ⟨_, G4, ok_sub hlo hhi List.filter_sublist⟩
theorem sc_law_interval_graph : FnScope ["_law_rows", "_law_pair"] ["_law_rows"] (defScope (top 243)) := ⟨rfl, rfl, rfl, by decide +kernel, rfl, by decide +kernel, by decide +kernel⟩
theorem ok_law_interval_graph (D : DefAt K mg "_law_interval_graph" 243) (B : Bt mg) (c_law_pairs : Ca P w K mg base 1 "_law_pairs" (sp_law_pairs K)) : Ca P w K mg base 2 "_law_interval_graph" (sp_law_interval_graph K) := by
  refine D.mk (k := 1) sc_law_interval_graph (fun _ _ _ _ _ _ us hl => match us, hl with | [_], _ => rfl) (fun vs H Q E h => ?_) (fun f cdv A outer s H vs Q E hr h => ?_)
  · obtain ⟨_, ⟨p, xs, ps, rfl, _⟩, _⟩ := h
    rfl
  · obtain ⟨_, ⟨p, xs, ps, rfl, hp, hd, h1, h7, rfl⟩, q⟩ := h
    have hu := hu_of hr
    have hu65 := hu65_of hr
    have sc := sc_law_interval_graph
    refine ⟨_, (pss_one (ps_ret (pe_tup (pa_cons (pe_callB (lenS K) (by rfl) B.len_ PySem.boot_len (pa_cons (pv 0) pa_nil)) (pa_cons (pe_callTy (tupS K) (by rfl) B.tuple_ (by decide +kernel) (pa_cons (pe_lc (own := [("_law_pair", 1)]) (by rfl) sc.nd (piL K (pe_c c_law_pairs hr (by decide) (by rfl) (pa_cons (pe_callB (lenS K) (by rfl) B.len_ PySem.boot_len (pa_cons (pv 0) pa_nil)) pa_nil))) (blkOk_by (own := [("_law_pair", 1)]) (N := ["_law_rows", "_law_pair"]) (sc := defScope (top 243)) (by decide +kernel)) (fun _ _ _ _ _ => (pg_name (i := 1) sc.nd rfl (by first | exact Or.inl rfl | exact Or.inr rfl))) (fun _ _ _ _ _ => (pts_one (PW.pt (pw_and (pt_cmpR op_le (pe_ix (ixT K) (pe_ix (ixL K) (pv 0) (pe_ix (ixT K) (pv 1) pe_int (fun _ _ => rfl)) (fun _ _ => rfl)) pe_int (fun _ _ => rfl)) (pe_ix (ixT K) (pe_ix (ixL K) (pv 0) (pe_ix (ixT K) (pv 1) pe_int (fun _ _ => rfl)) (fun _ _ => rfl)) pe_int (fun _ _ => rfl)) (nomark _)) (pw_and1 (pt_cmpR op_le (pe_ix (ixT K) (pe_ix (ixL K) (pv 0) (pe_ix (ixT K) (pv 1) pe_int (fun _ _ => rfl)) (fun _ _ => rfl)) pe_int (fun _ _ => rfl)) (pe_ix (ixT K) (pe_ix (ixL K) (pv 0) (pe_ix (ixT K) (pv 1) pe_int (fun _ _ => rfl)) (fun _ _ => rfl)) pe_int (fun _ _ => rfl)) (nomark _))))))) (fun _ _ _ _ _ => (pv 1))) pa_nil)) pa_nil))))), ?_⟩
    have hlx : (xs.length : Int) = (ps.length : Int) := by
      have := dpa_len hd
      rw [List.length_map] at this
      omega
    let f : Int × Int → Bool := fun a => decide ((ps.getD a.1.toNat (0, 0)).1 ≤ (ps.getD a.2.toNat (0, 0)).2) && decide ((ps.getD a.2.toNat (0, 0)).1 ≤ (ps.getD a.1.toNat (0, 0)).2)
    refine go_ret (ev_is (ev_len (ev_var rfl) hp) (congrArg V.int hlx) H (Ex.refl H) _ fun H1 e1 => ?_)
    have L := en_L (K := K) (H := H1) (σ := [some (.ref p), none]) (tl := tCall (sp_law_pairs K) [] C8.E0 (tCons (tCB (Evl.rLenS K) (tCons (tVar 0) tNil)) tNil)) (g := gName 1) (vs := [1]) (enc := pD) (as := rows2 (ps.length : Int)) (f := f) (r := pD)
      (te := tVar 1) (t := tAnd (tTest (tOp (rI0 fun i j => .bl (decide (i ≤ j))) (tOp (rIxT K) (tOp (rIxL K) (tVar 0) (tOp (rIxT K) (tVar 1) (tC (.int 0)))) (tC (.int 0))) (tOp (rIxT K) (tOp (rIxL K) (tVar 0) (tOp (rIxT K) (tVar 1) (tC (.int 1)))) (tC (.int 1)))))
        (tTest (tOp (rI0 fun i j => .bl (decide (i ≤ j))) (tOp (rIxT K) (tOp (rIxL K) (tVar 0) (tOp (rIxT K) (tVar 1) (tC (.int 1)))) (tC (.int 0))) (tOp (rIxT K) (tOp (rIxL K) (tVar 0) (tOp (rIxT K) (tVar 1) (tC (.int 0)))) (tC (.int 1)))))) (τ := fun _ x => [some (.ref p), some x])
      (evd_pairs (ev_is (ev_len (ev_var rfl) (ex_l e1 hp)) (congrArg V.int hlx)) (by omega) (by omega)) (by have := rows2_len (n := (ps.length : Int)) 7 (by omega); omega) noL_pair (fun a x H1 R hx hR => hR) (fun a x H1 hx => rfl)
      (fun a x H2 ha e2 hx => by
        have hg := mem_rows2.mp ha
        have hp2 := ex_l (e1.trans e2) hp
        have hd2 := dpa_ex (e1.trans e2) hd
        obtain ⟨x0, r0, d0⟩ := ev_row (ev_var (σ := [some (.ref p), some x]) (i := 0) rfl) (ev_p0 (ev_var (i := 1) rfl) hx) hp2 hd2 (by omega) (by omega)
        obtain ⟨x1, r1, d1⟩ := ev_row (ev_var (σ := [some (.ref p), some x]) (i := 0) rfl) (ev_p1 (ev_var (i := 1) rfl) hx) hp2 hd2 (by omega) (by omega)
        exact et_and (et_test (ev_le (ev_p0 r0 d0) (ev_p1 r1 d1))) fun _ => et_test (ev_le (ev_p0 r1 d1) (ev_p1 r0 d0))) (fun a x H2 _ _ hx _ => evd_v (ev_var rfl) hx)
    refine go_cons (go_cb (go_cons (L H1 (Ex.refl H1) _ fun l ys H2 hl e2 h2 hd2 => ?_)))
    refine go_graph (n := (ps.length : Int)) (es := (rows2 (ps.length : Int)).filter f) (sq_of h2) hd2 fun t H4 e4 G4 => ?_
    exact q _ _ ((e1.trans e2).trans e4) ⟨_, G4, ok_sub (by omega) (by omega) List.filter_sublist⟩
theorem sc_law_turned_graph : FnScope ["_law_one", "_law_two", "_law_first", "_law_second", "_law_found", "_law_u", "_law_v"] ["_law_one", "_law_two"] (defScope (top 244)) := ⟨rfl, rfl, rfl, by decide +kernel, rfl, by decide +kernel, by decide +kernel⟩
theorem ok_law_turned_graph (D : DefAt K mg "_law_turned_graph" 244) (B : Bt mg) (c_law_pairs : Ca P w K mg base 1 "_law_pairs" (sp_law_pairs K)) : Ca P w K mg base 2 "_law_turned_graph" (sp_law_turned_graph K) := by
  refine D.mk (k := 1) sc_law_turned_graph (fun _ _ _ _ _ _ us hl => match us, hl with | [_, _], _ => rfl) (fun vs H Q E h => ?_) (fun f cdv A outer s H vs Q E hr h => ?_)
  · obtain ⟨_, ⟨p, p2, n, ks, js, rfl, _⟩, _⟩ := h
    rfl
  · obtain ⟨_, ⟨p, p2, n, ks, js, rfl, h1, h7, hp, hp2, hk, hj, rfl⟩, q⟩ := h
    have hu := hu_of hr
    have hu65 := hu65_of hr
    have sc := sc_law_turned_graph
    refine ⟨_, (pss_cons (ps_set (i := 2) sc.nd rfl (by first | exact Or.inl rfl | exact Or.inr rfl) (pe_callTy (lstS K) (by rfl) B.list_ (by decide +kernel) (pa_cons (pv 0) pa_nil)))
      (pss_cons (ps_set (i := 3) sc.nd rfl (by first | exact Or.inl rfl | exact Or.inr rfl) (pe_callTy (lstS K) (by rfl) B.list_ (by decide +kernel) (pa_cons (pv 1) pa_nil)))
      (pss_cons (ps_set (i := 4) sc.nd rfl (by first | exact Or.inl rfl | exact Or.inr rfl) (pe_lst pa_nil))
      (pss_cons (ps_for PassesOwn.never rfl (piL K (pe_c c_law_pairs hr (by decide) (by rfl) (pa_cons (pe_callB (lenS K) (by rfl) B.len_ PySem.boot_len (pa_cons (pv 2) pa_nil)) pa_nil))) (pgT (n := 2) K (pgs_cons (pg_name (i := 5) sc.nd rfl (by first | exact Or.inl rfl | exact Or.inr rfl)) (pgs_cons (pg_name (i := 6) sc.nd rfl (by first | exact Or.inl rfl | exact Or.inr rfl)) pgs_nil))) (pss_one (ps_if (pt_cmpR op_ne (pe_cmpR op_lt (bmS K PySem.F.plainAttrs_list PySem.F.slot_list_index PySem.F.type_list_index (idxS K) (pv 2) (pa_cons (pv 5) pa_nil)) (bmS K PySem.F.plainAttrs_list PySem.F.slot_list_index PySem.F.type_list_index (idxS K) (pv 2) (pa_cons (pv 6) pa_nil)) (nomark _)) (pe_cmpR op_lt (bmS K PySem.F.plainAttrs_list PySem.F.slot_list_index PySem.F.type_list_index (idxS K) (pv 3) (pa_cons (pv 5) pa_nil)) (bmS K PySem.F.plainAttrs_list PySem.F.slot_list_index PySem.F.type_list_index (idxS K) (pv 3) (pa_cons (pv 6) pa_nil)) (nomark _)) (nomark _)) (pss_one (ps_expr (bmS K PySem.F.plainAttrs_list PySem.F.slot_list_append PySem.F.type_list_append mt_append (pv 4) (pa_cons (pe_tup (pa_cons (pv 5) (pa_cons (pv 6) pa_nil))) pa_nil)))) pss_nil)))
      (pss_one (ps_ret (pe_tup (pa_cons (pe_callB (lenS K) (by rfl) B.len_ PySem.boot_len (pa_cons (pv 2) pa_nil)) (pa_cons (pe_callTy (tupS K) (by rfl) B.tuple_ (by decide +kernel) (pa_cons (pv 4) pa_nil)) pa_nil))))))))), ?_⟩
    refine q_asgL (el_list (ev_var rfl) hp) fun a H1 ha e1 ha1 => ?_
    refine q_asgL (el_list (ev_var rfl) (ex_l e1 hp2)) fun b H2 hb e2 hb2 => ?_
    refine q_asgL (xs := []) (el_lst ea_nil (by decide)) fun F H3 hF e3 hF3 => ?_
    have ha3 := e3 _ _ (e2 _ _ ha1)
    have hb3 := e3 _ _ hb2
    have eH := (e1.trans e2).trans e3
    have aF : a ≠ F := fun z => by
      rw [← z] at hF
      rw [e2 _ _ ha1] at hF
      cases hF
    have bF : b ≠ F := fun z => by
      rw [← z] at hF
      rw [hb2] at hF
      cases hF
    have hlk : ((ks.map V.int).length : Int) = n := by
      rw [List.length_map, hk.length_eq, rgI_len]
      omega
    have hF0 : H F = none := fresh_back (e1.trans e2) hF
    have hr := rows2_len (n := n) 7 (by omega)
    refine go_seq (ev_is (ev_len (ev_var rfl) (sq_of ha3)) (congrArg V.int hlk) H3 (Ex.refl H3) _ fun H31 e31 => ⟨_, ⟨n, rfl, by omega, by omega, rfl⟩, fun v H4 e32 hv => ?_⟩)
    obtain ⟨l, xs, rfl, hlf, hl, hxs⟩ := hv
    have e4 := e31.trans e32
    have hlF : l ≠ F := fun z => by
      rw [z, e31 _ _ hF3] at hlf
      cases hlf
    have hlx : xs.length = (rows2 n).length := by
      have := dpa_len hxs
      rwa [List.length_map] at this
    refine q_forL (tl := tC (.ref l)) (xs := xs) (K := K) (g := gTup K 2 (gCons (gName 5) (gCons (gName 6) gNil))) (D := { nx := fun _ H' => Q .non H', rt := Q }) ev_c (sq_of hl) (fun i σ' H' => (∃ x y, σ' = [some (.ref p), some (.ref p2), some (.ref a), some (.ref b), some (.ref F), x, y]) ∧ Ex H H' ∧ H' a = some (.lst (ks.map V.int)) ∧ H' b = some (.lst (js.map V.int)) ∧ H' l = some (.lst xs) ∧ DpAll K H' xs ((rows2 n).map pD) ∧
        ∃ fs rs, H' F = some (.lst fs) ∧ DpAll K H' fs (rs.map pD) ∧ rs.Sublist ((rows2 n).take i))
      (fun H5 e5 => ⟨⟨_, _, rfl⟩, (eH.trans e4).trans e5, (e4.trans e5) _ _ ha3, (e4.trans e5) _ _ hb3, e5 _ _ hl, dpa_ex e5 hxs, [], [], (e4.trans e5) _ _ hF3, .nil, List.nil_sublist _⟩) (fun i σ' H' _ h => sq_of h.2.2.2.2.1) (fun i x σ' H' hx h => ?_) (fun σ' H' h => ?_)
    · obtain ⟨⟨x1, x2, rfl⟩, e5, ha5, hb5, hl5, hx5, fs, rs, hF5, hfs, hsub⟩ := h
      obtain ⟨pr, hpr, hdp⟩ := enc_at hx5 hx
      have hgd := mem_rows2.mp (List.mem_of_getElem? hpr)
      have mk1 : ∀ i : Int, 0 ≤ i → i < n → i ∈ ks := fun i h0 h1 => hk.mem_iff.mpr (mem_rgI.mpr (by omega))
      have mk2 : ∀ i : Int, 0 ≤ i → i < n → i ∈ js := fun i h0 h1 => hj.mem_iff.mpr (mem_rgI.mpr (by omega))
      refine g_pair hdp ?_
      obtain ⟨i1, w1⟩ := ev_index (K := K) (H := H') (σ := [some (.ref p), some (.ref p2), some (.ref a), some (.ref b), some (.ref F), some (.int pr.1), some (.int pr.2)]) (ta := tVar 2) (tb := tVar 5) (ev_var rfl) (ev_var rfl) (sq_of ha5) (mk1 pr.1 (by omega) (by omega))
      obtain ⟨i2, w2⟩ := ev_index (K := K) (H := H') (σ := [some (.ref p), some (.ref p2), some (.ref a), some (.ref b), some (.ref F), some (.int pr.1), some (.int pr.2)]) (ta := tVar 2) (tb := tVar 6) (ev_var rfl) (ev_var rfl) (sq_of ha5) (mk1 pr.2 (by omega) (by omega))
      obtain ⟨i3, w3⟩ := ev_index (K := K) (H := H') (σ := [some (.ref p), some (.ref p2), some (.ref a), some (.ref b), some (.ref F), some (.int pr.1), some (.int pr.2)]) (ta := tVar 3) (tb := tVar 5) (ev_var rfl) (ev_var rfl) (sq_of hb5) (mk2 pr.1 (by omega) (by omega))
      obtain ⟨i4, w4⟩ := ev_index (K := K) (H := H') (σ := [some (.ref p), some (.ref p2), some (.ref a), some (.ref b), some (.ref F), some (.int pr.1), some (.int pr.2)]) (ta := tVar 3) (tb := tVar 6) (ev_var rfl) (ev_var rfl) (sq_of hb5) (mk2 pr.2 (by omega) (by omega))
      have tk : (rows2 n).take (i + 1) = (rows2 n).take i ++ [pr] := by rw [List.take_add_one, hpr]; rfl
      have hfl : fs.length ≤ 49 := by
        have h1 := dpa_len hfs
        have h2 := hsub.length_le
        rw [List.length_map] at h1
        rw [List.length_take] at h2
        omega
      refine s_when (et_test (ev_op (ev_lt w1 w2) (ev_lt w3 w4) (rv_ne rfl))) (fun _ H6 e6 => ?_) (fun _ H6 e6 => ⟨⟨_, _, rfl⟩, e5.trans e6, e6 _ _ ha5, e6 _ _ hb5, e6 _ _ hl5, dpa_ex e6 hx5, fs, rs, e6 _ _ hF5, dpa_ex e6 hfs, by rw [tk]; exact hsub.trans (List.sublist_append_left _ _)⟩)
      refine s_appU (e6 _ _ hF5) (ev_var rfl) (eu_tup (ea_cons (ev_var rfl) (ea_cons (ev_var rfl) ea_nil)) (by show 2 ≤ 100000; decide)) (by omega) fun t H7 ht e7 h7 => ?_
      have hF7 := (e6.trans e7) _ _ hF5
      have tx : Tx H7 (upd H7 F (.lst (fs ++ [.ref t]))) := Tx.upd hF7 rfl
      refine ⟨⟨_, _, rfl⟩, Ex.mut ((e5.trans e6).trans e7) hF0, by rw [upd_ne aF]; exact (e6.trans e7) _ _ ha5, by rw [upd_ne bF]; exact (e6.trans e7) _ _ hb5, by rw [upd_ne hlF]; exact (e6.trans e7) _ _ hl5, dpa_tx tx (noLs_pairs _) (dpa_ex (e6.trans e7) hx5), fs ++ [.ref t], rs ++ [pr], upd_same, ?_, by rw [tk]; exact List.Sublist.append hsub (List.Sublist.refl _)⟩
      rw [List.map_append]
      exact dpa_app (dpa_tx tx (noLs_pairs _) (dpa_ex (e6.trans e7) hfs)) (.cons (mk_pair (st_of (tx _ _ h7 rfl))) .nil)
    · obtain ⟨⟨x1, x2, rfl⟩, e5, ha5, hb5, hl5, hx5, fs, rs, hF5, hfs, hsub⟩ := h
      refine go_ret (ev_is (ev_len (ev_var rfl) (sq_of ha5)) (congrArg V.int hlk) H' (Ex.refl H') _ fun H6 e6 => ?_)
      refine ⟨_, rfl, go_graph (n := n) (es := rs) (sq_of (e6 _ _ hF5)) (dpa_ex e6 hfs) fun t H7 e7 G7 => ?_⟩
      exact q _ _ ((e5.trans e6).trans e7) ⟨rs, G7, ok_sub h1 h7 (hsub.trans (List.take_sublist _ _))⟩
end
end Tr
namespace Tr
open PySem PySem.Spec PyProof.Rows L2 Evl StX
open C8 (Cal pe_c pe_gc)
section
variable {P : Program} {w : World} {K : PySem.W.Frag} {mg : Str → Option Value} {base : Heap}
theorem sc_law_subsets : FnScope ["_law_items", "_law_found", "_law_item", "_law_one"] ["_law_items"] (defScope (top 251)) := ⟨rfl, rfl, rfl, by decide +kernel, rfl, by decide +kernel, by decide +kernel⟩
theorem ok_law_subsets (D : DefAt K mg "_law_subsets" 251) (B : Bt mg) : Ca P w K mg base 1 "_law_subsets" (sp_law_subsets K) := by
  refine D.mk (k := 0) sc_law_subsets (fun _ _ _ _ _ _ us hl => match us, hl with | [_], _ => rfl) (fun vs H Q E h => ?_) (fun f cdv A outer s H vs Q E hr h => ?_)
  · obtain ⟨_, ⟨p, ks, rfl, _⟩, _⟩ := h
    rfl
  · obtain ⟨_, ⟨p, ks, rfl, hp, hz, rfl⟩, q⟩ := h
    have hu := hu_of hr
    have hu65 := hu65_of hr
    have sc := sc_law_subsets
    refine ⟨_, (pss_cons (ps_set (i := 1) sc.nd rfl (by first | exact Or.inl rfl | exact Or.inr rfl) (pe_lst (pa_cons (pe_tup pa_nil) pa_nil)))
      (pss_cons (ps_for PassesOwn.never rfl (piL K (pv 0)) (pg_name (i := 2) sc.nd rfl (by first | exact Or.inl rfl | exact Or.inr rfl)) (pss_one (ps_set (i := 1) sc.nd rfl (by first | exact Or.inl rfl | exact Or.inr rfl) (pe_op op_cat (pv 1) (pe_lc (own := [("_law_one", 3)]) (by rfl) sc.nd (piL K (pv 1)) (blkOk_by (own := [("_law_one", 3)]) (N := ["_law_items", "_law_found", "_law_item", "_law_one"]) (sc := defScope (top 251)) (by decide +kernel)) (fun _ _ _ _ _ => (pg_name (i := 3) sc.nd rfl (by first | exact Or.inl rfl | exact Or.inr rfl))) (fun _ _ _ _ _ => pts_nil) (fun _ _ _ _ _ => (pe_op (catA K) (pv 3) (pe_tup (pa_cons (pv 2) pa_nil)))))))))
      (pss_one (ps_ret (pv 1))))), ?_⟩
    refine go_seq ⟨Nat.zero_le _, fun u hu => ⟨by show 1 ≤ sizeLine; decide, fun F hF => ?_⟩⟩
    have e0 : Ex H (upd H u (.tup [])) := Ex.new hu
    have e1 : Ex H (upd (upd H u (.tup [])) F (.lst [.ref u])) := e0.trans (Ex.new hF)
    have hF0 := fresh_back e0 hF
    refine q_forLn (xs := ks.map V.int) (K := K) (ev_var rfl) (ex_l e1 hp) (fun i σ' H' => ∃ F, H F = none ∧ (∃ x y, σ' = [some (.ref p), some (.ref F), x, y]) ∧ Ex H H' ∧ ∃ xs, H' F = some (.lst xs) ∧ DpAll K H' xs ((subs (ks.take i)).map fun l => .tuple (l.map PyData.int)))
      (fun H2 e2 => ⟨F, hF0, ⟨_, _, rfl⟩, e1.trans e2, [.ref u], e2 _ _ upd_same, .cons (.tup (st_of (e2 _ _ (by rw [upd_ne (fun z => by subst z; rw [upd_same] at hF; cases hF), upd_same]))) .nil) .nil⟩) (fun i σ' H' _ h => ?_) (fun i x σ' H' hx h => ?_) (fun σ' H' h => ?_)
    · obtain ⟨F, _, _, e, _⟩ := h
      exact ex_l e hp
    · obtain ⟨F, hF, ⟨x1, x2, rfl⟩, e2, xs, h2, hd⟩ := h
      obtain ⟨k, hk, rfl⟩ : ∃ k, ks[i]? = some k ∧ x = .int k := by
        rw [List.getElem?_map] at hx
        cases hn : ks[i]? with
        | none =>
          rw [hn] at hx
          cases hx
        | some k =>
          rw [hn] at hx
          exact ⟨k, rfl, (Option.some.inj hx).symm⟩
      have tk : ks.take (i + 1) = ks.take i ++ [k] := by rw [List.take_add_one, hk]; rfl
      have hi : i < ks.length := (List.getElem?_eq_some_iff.mp hk).1
      have hsl := subs_len i (ks.take i) (by rw [List.length_take]; omega)
      have h128 : 2 ^ i ≤ 2 ^ 7 := Nat.pow_le_pow_right (by decide) (by omega)
      have L := en_L (K := K) (H := H') (σ := [some (.ref p), some (.ref F), some (.int k), x2]) (tl := tVar 1) (g := gName 3) (vs := [3]) (enc := fun l : List Int => .tuple (l.map PyData.int)) (as := subs (ks.take i)) (f := fun _ => true) (r := fun l => .tuple ((l ++ [k]).map PyData.int)) (t := tYes)
        (te := tOp (rCatA K) (tVar 3) (tTup (tCons (tVar 2) tNil))) (τ := fun _ x => [some (.ref p), some (.ref F), some (.int k), some x]) (evd_v (ev_var rfl) (.lst (sq_of h2) hd)) (by omega) (fun l => noL_ints _) (fun a x H1 R hx hR => hR) (fun a x H1 hx => rfl) (fun a x H1 _ _ hx => et_yes)
        (fun l x H3 hl e3 hx _ => by
          have := ((mem_subs i (ks.take i) l (by rw [List.length_take]; omega)).mp hl).length_le
          rw [List.length_take] at this
          exact evd_snoc (evd_v (ev_var rfl) hx) (ev_var rfl) (by omega))
      refine go_asg (go_op ⟨.ref F, rfl, L H' (Ex.refl H') _ fun l ys H3 hl e3 h3 hy => ?_⟩)
      have hlen1 := dpa_len hd
      have hlen2 := dpa_len hy
      rw [List.length_map] at hlen1 hlen2
      have hfl := List.length_filter_le (fun _ : List Int => true) (subs (ks.take i))
      refine ⟨F, l, xs, ys, rfl, rfl, e3 _ _ h2, h3, sz_of (by omega), fun p2 hp2 => ?_⟩
      have e4 : Ex H3 (upd H3 p2 (.lst (xs ++ ys))) := Ex.new hp2
      refine ⟨p2, fresh_back (e2.trans e3) hp2, ⟨_, _, rfl⟩, (e2.trans e3).trans e4, _, upd_same, ?_⟩
      rw [tk, subs_snoc, List.map_append]
      refine dpa_app (dpa_ex (e3.trans e4) hd) ?_
      have ef : ((subs (ks.take i)).filter fun _ => true) = subs (ks.take i) := List.filter_eq_self.mpr fun _ _ => rfl
      rw [ef] at hy
      rw [List.map_map]
      exact dpa_ex e4 hy
    · obtain ⟨F, hF, ⟨x1, x2, rfl⟩, e2, xs, h2, hd⟩ := h
      rw [List.length_map, List.take_length] at hd
      refine go_ret ⟨_, rfl, ?_⟩
      exact q _ _ e2 ⟨F, xs, rfl, hF, h2, hd⟩
theorem sc_law_is_row : FnScope ["_law_graph_here", "_law_value", "_law_v"] ["_law_graph_here", "_law_value"] (defScope (top 252)) := ⟨rfl, rfl, rfl, by decide +kernel, rfl, by decide +kernel, by decide +kernel⟩
theorem ok_law_is_row (D : DefAt K mg "_law_is_row" 252) (B : Bt mg) (c_law_is_int : Ca P w K mg base 1 "_law_is_int" (sp_law_is_int K)) (c_law_distinct : Ca P w K mg base 1 "_law_distinct" (sp_law_distinct K)) : Ca P w K mg base 2 "_law_is_row" (sp_law_is_row K) := by
  refine D.mk (k := 1) sc_law_is_row (fun _ _ _ _ _ _ us hl => match us, hl with | [_, _], _ => rfl) (fun vs H Q E h => ?_) (fun f cdv A outer s H vs Q E hr h => ?_)
  · obtain ⟨_, ⟨g, n, es, t, ks, rfl, _⟩, _⟩ := h
    rfl
  · obtain ⟨_, ⟨g, n, es, t, ks, rfl, G, hT, hg, rfl⟩, q⟩ := h
    have hu := hu_of hr
    have hu65 := hu65_of hr
    have sc := sc_law_is_row
    refine ⟨_, (pss_cons (ps_if (PW.pt (pw_or (pt_not (pt_val (pe_callB (isiS K) (by rfl) B.isinstance_ (by decide +kernel) (pa_cons (pv 1) (pa_cons (pe_bltn (v := .ty "tuple") (by rfl) B.tuple_ (by decide +kernel) rfl) pa_nil))))) (pw_or1 (pt_cmpR op_gt (pe_callB (lenS K) (by rfl) B.len_ PySem.boot_len (pa_cons (pe_lc (own := [("_law_v", 2)]) (by rfl) sc.nd (piT K (pv 1)) (blkOk_by (own := [("_law_v", 2)]) (N := ["_law_graph_here", "_law_value", "_law_v"]) (sc := defScope (top 252)) (by decide +kernel)) (fun _ _ _ _ _ => (pg_name (i := 2) sc.nd rfl (by first | exact Or.inl rfl | exact Or.inr rfl))) (fun _ _ _ _ _ => (pts_one (pt_not (pt_val (pe_c c_law_is_int hr (by decide) (by rfl) (pa_cons (pv 2) pa_nil)))))) (fun _ _ _ _ _ => (pv 2))) pa_nil)) pe_int (nomark _))))) (pss_one (ps_ret pe_bl)) pss_nil)
      (pss_one (ps_ret (pe_and (pe_cmpR op_eq (pe_callB (lenS K) (by rfl) B.len_ PySem.boot_len (pa_cons (pe_lc (own := [("_law_v", 2)]) (by rfl) sc.nd (piT K (pv 1)) (blkOk_by (own := [("_law_v", 2)]) (N := ["_law_graph_here", "_law_value", "_law_v"]) (sc := defScope (top 252)) (by decide +kernel)) (fun _ _ _ _ _ => (pg_name (i := 2) sc.nd rfl (by first | exact Or.inl rfl | exact Or.inr rfl))) (fun _ _ _ _ _ => (pts_one (pt_not (pt_chain op_le op_lt pe_int (pv 2) (pe_ix (ixT K) (pv 0) pe_int (fun _ _ => rfl)))))) (fun _ _ _ _ _ => (pv 2))) pa_nil)) pe_int (nomark _)) (pe_one (pe_cmpR op_eq (pe_callB (lenS K) (by rfl) B.len_ PySem.boot_len (pa_cons (pe_c c_law_distinct hr (by decide) (by rfl) (pa_cons (pe_callTy (lstS K) (by rfl) B.list_ (by decide +kernel) (pa_cons (pv 1) pa_nil)) pa_nil)) pa_nil)) (pe_callB (lenS K) (by rfl) B.len_ PySem.boot_len (pa_cons (pv 1) pa_nil)) (nomark _))))))), ?_⟩
    have hl := hg.len
    have L1 := en_T (K := K) (H := H) (σ := [some g, some (.ref t), none]) (tl := tVar 1) (g := gName 2) (vs := [2]) (enc := PyData.int) (as := ks) (f := fun _ => false) (r := fun v => .int v) (te := tVar 2) (t := tNot (tB (tCall (sp_law_is_int K) [] C8.E0 (tCons (tVar 2) tNil))))
      (τ := fun _ x => [some g, some (.ref t), some x]) (evd_v (ev_var rfl) (dp_ints_t hT)) (by omega) (fun _ => rfl) (fun a x H1 R hx hR => hR) (fun a x H1 hx => rfl) (fun a x H1 _ _ hx => by rw [dp_int hx]; exact et_is (et_not (et_B (ev_call1 (ev_var rfl) (sv_int (i := a))))) rfl) (fun a x H1 _ _ hx _ => by rw [dp_int hx]; exact evd_int (ev_var rfl))
    refine q_when (b := false) (et_is (et_or (et_not (et_B (ev_isi (b := true) (ev_var rfl) (ty_t hT) (by decide +kernel)))) fun _ => et_test (ev_gt (ev_lenD L1) ev_c)) (by rw [len_filter0 fun _ _ => rfl]; rfl)) (fun z => nomatch z) fun _ H1 e1 => ?_
    have hT1 := ex_t e1 hT
    have L2 := en_T (K := K) (H := H1) (σ := [some g, some (.ref t), none]) (tl := tVar 1) (g := gName 2) (vs := [2]) (enc := PyData.int) (as := ks) (f := fun v => !(decide (0 ≤ v) && decide (v < n))) (r := fun v => .int v) (te := tVar 2) (t := tNot (tTest (tChain (rI0 fun i j => .bl (decide (i ≤ j))) (rI0 fun i j => .bl (decide (i < j))) (tC (.int 0)) (tVar 2) (tOp (rIxT K) (tVar 0) (tC (.int 0))))))
      (τ := fun _ x => [some g, some (.ref t), some x]) (evd_v (ev_var rfl) (dp_ints_t hT1)) (by omega) (fun _ => rfl) (fun a x H1 R hx hR => hR) (fun a x H1 hx => rfl) (fun a x H2 _ e2 hx => by rw [dp_int hx]; exact et_not (et_test (ev_chain ev_c (ev_var rfl) (ev_n (ev_var rfl) (G.ex (e1.trans e2)))))) (fun a x H1 _ _ hx _ => by rw [dp_int hx]; exact evd_int (ev_var rfl))
    refine s_ret (v := .bl true) (ev_is (ev_andV (ev_eqI (ev_lenD L2) ev_c) fun _ => ev_eqI (i := (ks.length : Int)) (j := (ks.length : Int)) (fun H2 e2 Q q2 => ?_) (ev_is (ev_lenT (ev_var rfl) hT1) (by rw [List.length_map]))) ?_) fun H2 e2 => q _ _ (e1.trans e2) rfl
    · have hT2 := ex_t e2 hT1
      refine ⟨.ref t, rfl, t, _, rfl, .inr hT2, fun l hlf => ?_⟩
      have e3 : Ex H2 (upd H2 l (.lst (ks.map V.int))) := Ex.new hlf
      refine ⟨_, .inl ⟨l, ks, rfl, sq_of upd_same, hg.nd, by omega, rfl⟩, fun v H4 e4 hv => ?_⟩
      obtain ⟨l4, rs, rfl, hl4, h4, hlen⟩ := hv
      refine ⟨l4, _, rfl, .inl (sq_of h4), ?_⟩
      rw [List.length_map, hlen]
      exact q2 _ (e3.trans e4)
    · rw [len_filter0 fun x hx => by
        have := hg.rg x hx
        simp [this]]
      simp
theorem sc_law_is_way : FnScope ["_law_graph_here", "_law_value", "_law_k"] ["_law_graph_here", "_law_value"] (defScope (top 253)) := ⟨rfl, rfl, rfl, by decide +kernel, rfl, by decide +kernel, by decide +kernel⟩
theorem ok_law_is_way (D : DefAt K mg "_law_is_way" 253) (B : Bt mg) (c_law_is_row : Ca P w K mg base 2 "_law_is_row" (sp_law_is_row K)) (c_law_met : Ca P w K mg base 1 "_law_met" (sp_law_met K)) : Ca P w K mg base 3 "_law_is_way" (sp_law_is_way K) := by
  refine D.mk (k := 2) sc_law_is_way (fun _ _ _ _ _ _ us hl => match us, hl with | [_, _], _ => rfl) (fun vs H Q E h => ?_) (fun f cdv A outer s H vs Q E hr h => ?_)
  · obtain ⟨_, ⟨g, n, es, t, ks, rfl, _⟩, _⟩ := h
    rfl
  · obtain ⟨_, ⟨g, n, es, t, ks, rfl, G, hT, hg, h0, ha, rfl⟩, q⟩ := h
    have hu := hu_of hr
    have hu65 := hu65_of hr
    have sc := sc_law_is_way
    refine ⟨_, (pss_cons (ps_if (PW.pt (pw_or (pt_not (pt_val (pe_c c_law_is_row hr (by decide) (by rfl) (pa_cons (pv 0) (pa_cons (pv 1) pa_nil))))) (pw_or1 (pt_cmpR (eqD K hu65) (pv 1) (pe_tup pa_nil) (nomark _))))) (pss_one (ps_ret pe_bl)) pss_nil)
      (pss_one (ps_ret (pe_cmpR op_eq (pe_callB (lenS K) (by rfl) B.len_ PySem.boot_len (pa_cons (pe_lc (own := [("_law_k", 2)]) (by rfl) sc.nd (pi_range2 (by rfl) B.range_ (pa_cons pe_int (pa_cons (pe_callB (lenS K) (by rfl) B.len_ PySem.boot_len (pa_cons (pv 1) pa_nil)) pa_nil))) (blkOk_by (own := [("_law_k", 2)]) (N := ["_law_graph_here", "_law_value", "_law_k"]) (sc := defScope (top 253)) (by decide +kernel)) (fun _ _ _ _ _ => (pg_name (i := 2) sc.nd rfl (by first | exact Or.inl rfl | exact Or.inr rfl))) (fun _ _ _ _ _ => (pts_one (pt_not (pt_val (pe_c c_law_met hr (by decide) (by rfl) (pa_cons (pv 0) (pa_cons (pe_ix (ixT K) (pv 1) (pe_op op_sub (pv 2) pe_int) (fun _ _ => rfl)) (pa_cons (pe_ix (ixT K) (pv 1) (pv 2) (fun _ _ => rfl)) pa_nil)))))))) (fun _ _ _ _ _ => (pv 2))) pa_nil)) pe_int (nomark _))))), ?_⟩
    have hl := hg.len
    have hp : 0 < ks.length := List.length_pos_iff.mpr h0
    refine q_when (b := false) (et_is (et_or (b := false) (et_not (et_B (ev_call2 (ev_var rfl) (ev_var rfl) (sv_row G hT hg)))) fun _ => et_test (ev_opU (xs := []) (ev_var rfl) (eu_tup ea_nil (by decide)) fun p H1 h1 e1 => rv_val fun H2 e2 Q q => ?_)) rfl) (fun z => nomatch z) fun _ H1 e1 => ?_
    · refine ⟨_, _, dp_ints_t (ex_t (e1.trans e2) hT), .tup (st_of (e2 _ _ h1)) .nil, sh_intsT _, sh_intsT [], ?_⟩
      have : PyData.eqv (.tuple (ks.map PyData.int)) (.tuple []) = false := by
        cases ks with
        | nil => exact absurd rfl h0
        | cons a r => simp [PyData.eqv, PyData.eqvAll]
      rw [this]
      exact q
    have hT1 := ex_t e1 hT
    have L := en_R2 (K := K) (H := H1) (σ := [some g, some (.ref t), none]) (ta := tCons (tC (.int 1)) (tCons (tCB (Evl.rLenS K) (tCons (tVar 1) tNil)) tNil)) (g := gName 2) (vs := [2]) (lo := 1) (n := (ks.length : Int)) (te := tVar 2)
      (t := tNot (tB (tCall (sp_law_met K) [] C8.E0 (tCons (tVar 0) (tCons (tOp (rIxT K) (tVar 1) (tOp (rI0 fun i j => .int (i - j)) (tVar 2) (tC (.int 1)))) (tCons (tOp (rIxT K) (tVar 1) (tVar 2)) tNil))))))
      (f := fun k => !adjB es (ks.getD (k - 1).toNat 0) (ks.getD k.toNat 0)) (r := fun k => .int k) (τ := fun k => [some g, some (.ref t), some (.int k)]) (ea_cons ev_c (ea_cons (ev_is (ev_lenT (ev_var rfl) hT1) (by rw [List.length_map])) ea_nil)) (by omega) (by omega) (by omega) (fun _ => rfl)
      (fun a H1 R hR => hR) (fun a => rfl) (fun a H2 ha0 ha1 e2 => et_not (et_B (ev_call3 (ev_var rfl) (ev_ixTi (ev_var rfl) (ev_sub (ev_var rfl) ev_c) (ex_t e2 hT1) (by omega) (by omega)) (ev_ixTi (ev_var rfl) (ev_var rfl) (ex_t e2 hT1) (by omega) (by omega)) (sv_met (G.ex (e1.trans e2))))))
      (fun a H2 _ _ _ _ => evd_int (ev_var rfl))
    refine s_ret (v := .bl true) (ev_is (ev_eqI (ev_lenD L) ev_c) ?_) fun H2 e2 => q _ _ (e1.trans e2) rfl
    rw [len_filter0 fun k hk => ?_]
    · rfl
    · have hk2 := mem_rgI.mp hk
      have h1 : (k - 1).toNat + 1 < ks.length := by omega
      have e2 : k.toNat = (k - 1).toNat + 1 := by omega
      rw [getD_at (by omega), e2, getD_at h1, (adjB_iff _ _ _).mpr (ha _ h1)]
      rfl
theorem sc_law_bare : FnScope ["_law_graph_here", "_law_value", "_law_ring", "_law_i", "_law_j"] ["_law_graph_here", "_law_value", "_law_ring"] (defScope (top 254)) := ⟨rfl, rfl, rfl, by decide +kernel, rfl, by decide +kernel, by decide +kernel⟩
theorem ok_law_bare (D : DefAt K mg "_law_bare" 254) (B : Bt mg) (c_law_pairs : Ca P w K mg base 1 "_law_pairs" (sp_law_pairs K)) (c_law_met : Ca P w K mg base 1 "_law_met" (sp_law_met K)) : Ca P w K mg base 2 "_law_bare" (sp_law_bare K) := by
  refine D.mk (k := 1) sc_law_bare (fun _ _ _ _ _ _ us hl => match us, hl with | [_, _, _], _ => rfl) (fun vs H Q E h => ?_) (fun f cdv A outer s H vs Q E hr h => ?_)
  · obtain ⟨_, ⟨g, t, rfl, _⟩, _⟩ := h
    rfl
  · obtain ⟨_, ⟨g, t, rfl, hA, rfl⟩, q⟩ := h
    have hu := hu_of hr
    have hu65 := hu65_of hr
    have sc := sc_law_bare
    refine ⟨_, (pss_cons (ps_for PassesOwn.never rfl (piL K (pe_c c_law_pairs hr (by decide) (by rfl) (pa_cons (pe_callB (lenS K) (by rfl) B.len_ PySem.boot_len (pa_cons (pv 1) pa_nil)) pa_nil))) (pgT (n := 2) K (pgs_cons (pg_name (i := 3) sc.nd rfl (by first | exact Or.inl rfl | exact Or.inr rfl)) (pgs_cons (pg_name (i := 4) sc.nd rfl (by first | exact Or.inl rfl | exact Or.inr rfl)) pgs_nil))) (pss_one (ps_if (PW.pt (pw_and (pt_cmpR op_gt (pv 4) (pe_op op_add (pv 3) pe_int) (nomark _)) (pw_and (pt_val (pe_c c_law_met hr (by decide) (by rfl) (pa_cons (pv 0) (pa_cons (pe_ix (ixT K) (pv 1) (pv 3) (fun _ _ => rfl)) (pa_cons (pe_ix (ixT K) (pv 1) (pv 4) (fun _ _ => rfl)) pa_nil))))) (pw_and1 (pt_not (PW.pt (pw_and (pt_val (pv 2)) (pw_and (pt_cmpR op_eq (pv 3) pe_int (nomark _)) (pw_and1 (pt_cmpR op_eq (pv 4) (pe_op op_sub (pe_callB (lenS K) (by rfl) B.len_ PySem.boot_len (pa_cons (pv 1) pa_nil)) pe_int) (nomark _))))))))))) (pss_one (ps_ret pe_bl)) pss_nil)))
      (pss_one (ps_ret pe_bl))), ?_⟩
    obtain ⟨n, es, ks, G, hT, hg, O, HP⟩ := hA
    have hL := HP.len
    have hhi := O.hi
    have hlr := len_range hg.nd hg.rg
    have hlk : ((ks.map V.int).length : Int) = (ks.length : Int) := by rw [List.length_map]
    refine go_seq (ev_is (ev_lenT (ev_var rfl) hT) (congrArg V.int hlk) H (Ex.refl H) _ fun H31 e31 => ⟨_, ⟨(ks.length : Int), rfl, by omega, by omega, rfl⟩, fun v H4 e32 hv => ?_⟩)
    obtain ⟨l, xs, rfl, hlf, hl, hxs⟩ := hv
    have e4 := e31.trans e32
    refine q_forL (tl := tC (.ref l)) (xs := xs) (K := K) (g := gTup K 2 (gCons (gName 3) (gCons (gName 4) gNil))) (D := { nx := fun _ H' => Q .non H', rt := Q }) ev_c (sq_of hl) (fun i σ' H' => (∃ x y, σ' = [some g, some (.ref t), some (.bl true), x, y]) ∧ Ex H H' ∧ H' l = some (.lst xs) ∧ DpAll K H' xs ((rows2 (ks.length : Int)).map pD))
      (fun H5 e5 => ⟨⟨_, _, rfl⟩, e4.trans e5, e5 _ _ hl, dpa_ex e5 hxs⟩) (fun i σ' H' _ h => sq_of h.2.2.1) (fun i x σ' H' hx h => ?_) (fun σ' H' h => ?_)
    · obtain ⟨⟨x1, x2, rfl⟩, e5, hl5, hx5⟩ := h
      obtain ⟨pr, hpr, hdp⟩ := enc_at hx5 hx
      have hgd := mem_rows2.mp (List.mem_of_getElem? hpr)
      have hT5 := ex_t e5 hT
      refine g_pair hdp ?_
      refine s_when (b := false) (et_is (et_and (et_test (ev_gt (ev_var rfl) (ev_add (ev_var rfl) ev_c))) fun _ => et_and (et_B (ev_call3 (ev_var rfl) (ev_ixTi (ev_var rfl) (ev_var rfl) hT5 (by omega) (by omega)) (ev_ixTi (ev_var rfl) (ev_var rfl) hT5 (by omega) (by omega)) (sv_met (G.ex e5)))) fun _ => et_not (et_and (et_B (ev_var rfl)) fun _ => et_and (et_test (ev_eqI (ev_var rfl) ev_c)) fun _ => et_test (ev_eqI (ev_var rfl) (ev_sub (ev_is (ev_lenT (ev_var rfl) hT5) (congrArg V.int hlk)) ev_c)))) ?_) (fun z => nomatch z) (fun _ H6 e6 => ⟨⟨_, _, rfl⟩, e5.trans e6, e6 _ _ hl5, dpa_ex e6 hx5⟩)
      rw [getD_at (by omega), getD_at (by omega)]
      by_cases hgt : pr.1 + 1 < pr.2
      · cases hadj : adjB es (ks[pr.1.toNat]'(by omega)) (ks[pr.2.toNat]'(by omega)) with
        | false => simp
        | true =>
          rw [adjB_iff] at hadj
          have := (HP.adj pr.1.toNat pr.2.toNat (by omega) (by omega) (by omega)).mp hadj
          unfold near at this
          have h1 : pr.1 = 0 := by omega
          have h2 : pr.2 = (ks.length : Int) - 1 := by omega
          simp [h1, h2]
      · simp [hgt]
    · obtain ⟨⟨x1, x2, rfl⟩, e5, hl5, hx5⟩ := h
      exact q _ _ e5 rfl
theorem sc_law_is_hole : FnScope ["_law_graph_here", "_law_value"] ["_law_graph_here", "_law_value"] (defScope (top 255)) := ⟨rfl, rfl, rfl, by decide +kernel, rfl, by decide +kernel, by decide +kernel⟩
theorem ok_law_is_hole (D : DefAt K mg "_law_is_hole" 255) (B : Bt mg) (c_law_met : Ca P w K mg base 1 "_law_met" (sp_law_met K)) (c_law_is_way : Ca P w K mg base 3 "_law_is_way" (sp_law_is_way K)) (c_law_bare : Ca P w K mg base 2 "_law_bare" (sp_law_bare K)) : Ca P w K mg base 4 "_law_is_hole" (sp_law_is_hole K) := by
  refine D.mk (k := 3) sc_law_is_hole (fun _ _ _ _ _ _ us hl => match us, hl with | [_, _], _ => rfl) (fun vs H Q E h => ?_) (fun f cdv A outer s H vs Q E hr h => ?_)
  · obtain ⟨_, ⟨g, t, rfl, _⟩, _⟩ := h
    rfl
  · obtain ⟨_, ⟨g, t, rfl, hA, rfl⟩, q⟩ := h
    have hu := hu_of hr
    have hu65 := hu65_of hr
    have sc := sc_law_is_hole
    refine ⟨_, (pss_cons (ps_if (PW.pt (pw_or (pt_not (pt_val (pe_c c_law_is_way hr (by decide) (by rfl) (pa_cons (pv 0) (pa_cons (pv 1) pa_nil))))) (pw_or (pt_cmpR op_lt (pe_callB (lenS K) (by rfl) B.len_ PySem.boot_len (pa_cons (pv 1) pa_nil)) pe_int (nomark _)) (pw_or1 (pt_not (pt_val (pe_c c_law_met hr (by decide) (by rfl) (pa_cons (pv 0) (pa_cons (pe_ix (ixT K) (pv 1) pe_int (fun _ _ => rfl)) (pa_cons (pe_ix (ixT K) (pv 1) (pe_un un_neg pe_int) (fun _ _ => rfl)) pa_nil)))))))))) (pss_one (ps_ret pe_bl)) pss_nil)
      (pss_one (ps_ret (pe_c c_law_bare hr (by decide) (by rfl) (pa_cons (pv 0) (pa_cons (pv 1) (pa_cons pe_bl pa_nil))))))), ?_⟩
    have hA0 := hA
    obtain ⟨n, es, ks, G, hT, hg, O, HP⟩ := hA
    have hL := HP.len
    have h0 : ks ≠ [] := List.ne_nil_of_length_pos (by omega)
    have hnx : ∀ i (h : i + 1 < ks.length), adj es ks[i] ks[i + 1] := fun i hi => (HP.adj i (i + 1) (by omega) hi (by omega)).mpr (by unfold near; omega)
    have eL : ks.map V.int = (ks.dropLast).map V.int ++ [.int (ks[ks.length - 1]'(by omega))] := by
      rw [← List.map_singleton (f := V.int), ← List.map_append]
      congr 1
      rw [← List.getLast_eq_getElem h0, List.dropLast_concat_getLast h0]
    refine q_when (b := false) (et_is (et_or (et_not (et_B (ev_call2 (ev_var rfl) (ev_var rfl) (sv_way G hT hg h0 hnx)))) fun _ => et_or (et_test (ev_lt (ev_lenT (ev_var rfl) hT) ev_c)) fun _ => et_not (et_B (ev_call3 (ev_var rfl) (ev_ixT (j := 0) (ev_var rfl) ev_c hT (int_at (by omega))) (ev_op (ev_var rfl) (ev_un ev_c ru_neg) (rv_ixT (by rw [eL] at hT; exact hT) (atI_last _ _))) (sv_met G)))) ?_) (fun z => nomatch z) fun _ H1 e1 => ?_
    · have a1 : adjB es (ks[0]'(by omega)) (ks[ks.length - 1]'(by omega)) = true := by
        rw [adjB_iff]
        exact (HP.adj 0 (ks.length - 1) (by omega) (by omega) (by omega)).mpr (by unfold near; omega)
      have a2 : decide (((ks.map V.int).length : Int) < 4) = false := by
        rw [List.length_map]
        exact decide_eq_false (by omega)
      rw [a1, a2]
      rfl
    · exact s_ret (v := .bl true) (ev_call3 (ev_var rfl) (ev_var rfl) ev_c (sv_bare (hA0.ex e1))) fun H2 e2 => q _ _ (e1.trans e2) rfl
end
end Tr
namespace Tr
open PySem PySem.Spec PyProof.Rows L2 Evl StX
open C8 (Cal pe_c pe_gc)
section
variable {P : Program} {w : World} {K : PySem.W.Frag} {mg : Str → Option Value} {base : Heap}
theorem eqv_nilI (l : List Int) : PyData.eqv (.list (l.map PyData.int)) (.list []) = decide (l = []) := by
  cases l <;> simp [PyData.eqv, PyData.eqvAll]
theorem iter_ring {es : List (Int × Int)} {ks : List Int} (i : Nat) : iterN (ringStep (adjB es) ks) [ks.headD 0] i ≠ [] ∧ (iterN (ringStep (adjB es) ks) [ks.headD 0] i).length ≤ i + 1 := by
  induction i with
  | zero => exact ⟨by simp [iterN], by simp [iterN]⟩
  | succ i ih =>
    show ringStep (adjB es) ks (iterN (ringStep (adjB es) ks) [ks.headD 0] i) ≠ [] ∧ (ringStep (adjB es) ks (iterN (ringStep (adjB es) ks) [ks.headD 0] i)).length ≤ i + 1 + 1
    generalize iterN (ringStep (adjB es) ks) [ks.headD 0] i = R at ih ⊢
    unfold ringStep
    split
    · exact ⟨ih.1, by omega⟩
    · exact ⟨by simp, by rw [List.length_append]; simp; omega⟩
theorem sc_law_ring_of : FnScope ["_law_graph_here", "_law_members", "_law_ring", "_law_k", "_law_more", "_law_v"] ["_law_graph_here", "_law_members"] (defScope (top 256)) := ⟨rfl, rfl, rfl, by decide +kernel, rfl, by decide +kernel, by decide +kernel⟩
theorem ok_law_ring_of (D : DefAt K mg "_law_ring_of" 256) (B : Bt mg) (c_law_met : Ca P w K mg base 1 "_law_met" (sp_law_met K)) : Ca P w K mg base 2 "_law_ring_of" (sp_law_ring_of K) := by
  refine D.mk (k := 1) sc_law_ring_of (fun _ _ _ _ _ _ us hl => match us, hl with | [_, _], _ => rfl) (fun vs H Q E h => ?_) (fun f cdv A outer s H vs Q E hr h => ?_)
  · obtain ⟨_, ⟨g, n, es, t, ks, rfl, _⟩, _⟩ := h
    rfl
  · obtain ⟨_, ⟨g, n, es, t, ks, rfl, G, hT, h0, hz, rfl⟩, q⟩ := h
    have hu := hu_of hr
    have hu65 := hu65_of hr
    have sc := sc_law_ring_of
    refine ⟨_, (pss_cons (ps_set (i := 2) sc.nd rfl (by first | exact Or.inl rfl | exact Or.inr rfl) (pe_lst (pa_cons (pe_ix (ixT K) (pv 1) pe_int (fun _ _ => rfl)) pa_nil)))
      (pss_cons (ps_for PassesOwn.never rfl (pi_range1 (by rfl) B.range_ (pa_cons (pe_op op_sub (pe_callB (lenS K) (by rfl) B.len_ PySem.boot_len (pa_cons (pv 1) pa_nil)) pe_int) pa_nil)) (pg_name (i := 3) sc.nd rfl (by first | exact Or.inl rfl | exact Or.inr rfl)) (pss_cons (ps_setLc (i := 4) (own := [("_law_v", 5)]) (by rfl) sc.nd rfl rfl (sw_true rfl rfl rfl (by decide +kernel)) (piT K (pv 1)) (blkOk_by (own := [("_law_v", 5)]) (N := ["_law_graph_here", "_law_members", "_law_ring", "_law_k", "_law_more", "_law_v"]) (sc := defScope (top 256)) (by decide +kernel)) (fun _ _ _ _ _ => (pg_name (i := 5) sc.nd rfl (by first | exact Or.inl rfl | exact Or.inr rfl))) (fun _ _ _ _ _ => (pts_one (PW.pt (pw_and (pt_cmpR (niS K) (pv 5) (pv 2) (by rfl)) (pw_and1 (pt_val (pe_c c_law_met hr (by decide) (by rfl) (pa_cons (pv 0) (pa_cons (pe_ix (ixL K) (pv 2) (pe_un un_neg pe_int) (fun _ _ => rfl)) (pa_cons (pv 5) pa_nil)))))))))) (fun _ _ _ _ _ => (pv 5)))
      (pss_one (ps_if (pt_cmpR (neD K hu65) (pv 4) (pe_lst pa_nil) (nomark _)) (pss_one (ps_expr (bmS K PySem.F.plainAttrs_list PySem.F.slot_list_append PySem.F.type_list_append mt_append (pv 2) (pa_cons (pe_ix (ixL K) (pv 4) pe_int (fun _ _ => rfl)) pa_nil)))) pss_nil))))
      (pss_one (ps_ret (pe_callTy (tupS K) (by rfl) B.tuple_ (by decide +kernel) (pa_cons (pv 2) pa_nil)))))), ?_⟩
    have hp : 0 < ks.length := List.length_pos_iff.mpr h0
    have hhd : (ks.map V.int)[0]? = some (.int (ks.headD 0)) := by
      cases ks with
      | nil => exact absurd rfl h0
      | cons a r => rfl
    refine q_asgL (xs := [.int (ks.headD 0)]) (el_lst (ea_cons (ev_ixT (j := 0) (ev_var rfl) ev_c hT hhd) ea_nil) (by show 1 ≤ 100000; decide)) fun F H1 hF e1 hF1 => ?_
    refine q_forR1 (n := (ks.length : Int) - 1) (ea_cons (ev_sub (ev_is (ev_lenT (ev_var rfl) (ex_t e1 hT)) (by rw [List.length_map])) ev_c) ea_nil) (by omega) (fun i σ' H' => (∃ x y, σ' = [some g, some (.ref t), some (.ref F), x, y, none]) ∧ Ex H H' ∧ H' F = some (.lst ((iterN (ringStep (adjB es) ks) [ks.headD 0] i).map V.int)))
      (fun H2 e2 => ⟨⟨_, _, rfl⟩, e1.trans e2, e2 _ _ hF1⟩) (fun i σ' H' hi h => ?_) (fun σ' H' h => ?_)
    · obtain ⟨⟨x1, x2, rfl⟩, e2, h2⟩ := h
      obtain ⟨r0, rl⟩ := iter_ring (es := es) (ks := ks) i
      have es1 : iterN (ringStep (adjB es) ks) [ks.headD 0] (i + 1) = ringStep (adjB es) ks (iterN (ringStep (adjB es) ks) [ks.headD 0] i) := rfl
      rw [es1]
      generalize iterN (ringStep (adjB es) ks) [ks.headD 0] i = R at h2 r0 rl
      have hR : 0 < R.length := List.length_pos_iff.mpr r0
      have hlast : (R.map V.int)[(R.map V.int).length - 1]? = some (.int (R.getLastD 0)) := by
        rw [List.length_map, int_at (by omega), List.getLastD_eq_getLast?, List.getLast?_eq_getElem?, List.getElem?_eq_getElem (by omega), Option.getD_some]
      have L := en_T (K := K) (H := H') (σ := [some g, some (.ref t), some (.ref F), some (.int (i : Int)), x2, none]) (tl := tVar 1) (g := gName 5) (vs := [5]) (enc := PyData.int) (as := ks) (f := fun v => !decide (v ∈ R) && adjB es (R.getLastD 0) v) (r := fun v => .int v) (te := tVar 5)
        (t := tAnd (tTest (tOp (rIn K true) (tVar 5) (tVar 2))) (tB (tCall (sp_law_met K) [] C8.E0 (tCons (tVar 0) (tCons (tOp (rIxL K) (tVar 2) (tUn (rU fun i => .int (-i)) (tC (.int 1)))) (tCons (tVar 5) tNil))))))
        (τ := fun _ x => [some g, some (.ref t), some (.ref F), some (.int (i : Int)), x2, some x]) (evd_v (ev_var rfl) (dp_ints_t (ex_t e2 hT))) (by omega) (fun _ => rfl) (fun a x H1 R hx hR => hR) (fun a x H1 hx => rfl)
        (fun a x H3 _ e3 hx => by
          rw [dp_int hx]
          refine et_and (et_is (et_test (ev_op (ev_var rfl) (ev_var rfl) (rv_niL (sq_of (e3 _ _ h2)) rfl (flat_ints R)))) (by rw [inV_ints])) fun _ => et_B (ev_call3 (ev_var rfl) (ev_last (ev_var rfl) (sq_of (e3 _ _ h2)) hlast) (ev_var rfl) (sv_met (G.ex (e2.trans e3))))) (fun a x H1 _ _ hx _ => by rw [dp_int hx]; exact evd_int (ev_var rfl))
      refine q_asgL (EvN.ints (K := K) (ks := ringMore (adjB es) ks R) L) fun m H3 hm e3 h3 => ?_
      refine s_when (b := !decide (ringMore (adjB es) ks R = [])) (et_test (ev_opL (xs := []) (ev_var rfl) (el_lst ea_nil (by decide)) fun pp H4 hpp e4 => rv_val fun H5 e5 Q5 q5 => ?_)) (fun hb H4 e4 => ?_) (fun hb H4 e4 => ?_)
      · refine ⟨_, _, dp_ints_l (sq_of ((e4.trans e5) _ _ h3)), .lst (sq_of (e5 _ _ hpp)) .nil, sh_intsL _, sh_intsL [], ?_⟩
        rw [eqv_nilI]
        exact q5
      · have hne : ringMore (adjB es) ks R ≠ [] := by simpa using hb
        obtain ⟨x, r, hxr⟩ : ∃ x r, ringMore (adjB es) ks R = x :: r := by
          cases hf : ringMore (adjB es) ks R with
          | nil => exact absurd hf hne
          | cons x r => exact ⟨x, r, rfl⟩
        rw [hxr] at h3
        refine s_app ((e3.trans e4) _ _ h2) (ev_var rfl) (ev_ixL (j := 0) (v := .int x) (ev_var rfl) ev_c (sq_of (e4 _ _ h3)) rfl) (by rw [List.length_map]; omega) fun H5 e5 => ?_
        refine ⟨⟨_, _, rfl⟩, Ex.mut (((e2.trans e3).trans e4).trans e5) hF, ?_⟩
        unfold ringStep
        rw [upd_same, hxr]
        show some (HO.lst (R.map V.int ++ [V.int x])) = some (HO.lst ((R ++ [x]).map V.int))
        rw [List.map_append]
        rfl
      · have hne : ringMore (adjB es) ks R = [] := by simpa using hb
        refine ⟨⟨_, _, rfl⟩, (e2.trans e3).trans e4, ?_⟩
        unfold ringStep
        rw [hne]
        exact (e3.trans e4) _ _ h2
    · obtain ⟨⟨x1, x2, rfl⟩, e2, h2⟩ := h
      refine go_ret ⟨_, rfl, go_tupL (sq_of h2) fun t2 ht2 => ?_⟩
      refine q _ _ (e2.trans (Ex.new ht2)) ⟨t2, rfl, ?_⟩
      have e : ((ks.length : Int) - 1).toNat = ks.length - 1 := by omega
      rw [e]
      exact st_of upd_same
theorem sc_law_holes : FnScope ["_law_graph_here", "_law_found", "_law_members", "_law_ring", "_law_v", "_law_u"] ["_law_graph_here"] (defScope (top 257)) := ⟨rfl, rfl, rfl, by decide +kernel, rfl, by decide +kernel, by decide +kernel⟩
theorem ok_law_holes (D : DefAt K mg "_law_holes" 257) (B : Bt mg) (c_law_subsets : Ca P w K mg base 1 "_law_subsets" (sp_law_subsets K)) (c_law_near : Ca P w K mg base 2 "_law_near" (sp_law_near K)) (c_law_ring_of : Ca P w K mg base 2 "_law_ring_of" (sp_law_ring_of K)) (c_law_is_hole : Ca P w K mg base 4 "_law_is_hole" (sp_law_is_hole K)) : Ca P w K mg base 5 "_law_holes" (sp_law_holes K) := by
  refine D.mk (k := 4) sc_law_holes (fun _ _ _ _ _ _ us hl => match us, hl with | [_], _ => rfl) (fun vs H Q E h => ?_) (fun f cdv A outer s H vs Q E hr h => ?_)
  · obtain ⟨_, ⟨g, n, es, rfl, _⟩, _⟩ := h
    rfl
  · obtain ⟨_, ⟨g, n, es, rfl, G, O, rfl⟩, q⟩ := h
    have hu := hu_of hr
    have hu65 := hu65_of hr
    have sc := sc_law_holes
    refine ⟨_, (pss_cons (ps_set (i := 1) sc.nd rfl (by first | exact Or.inl rfl | exact Or.inr rfl) (pe_lst pa_nil))
      (pss_cons (ps_for PassesOwn.never rfl (piL K (pe_c c_law_subsets hr (by decide) (by rfl) (pa_cons (pe_listRg rfl (by rfl) B.list_ (prg_1 (by rfl) B.range_ (pe_ix (ixT K) (pv 0) pe_int (fun _ _ => rfl)))) pa_nil))) (pg_name (i := 2) sc.nd rfl (by first | exact Or.inl rfl | exact Or.inr rfl)) (pss_one (ps_if (PW.pt (pw_and (pt_cmpR op_gt (pe_callB (lenS K) (by rfl) B.len_ PySem.boot_len (pa_cons (pv 2) pa_nil)) pe_int (nomark _)) (pw_and1 (pt_cmpR op_eq (pe_callB (lenS K) (by rfl) B.len_ PySem.boot_len (pa_cons (pe_lc (own := [("_law_v", 4)]) (by rfl) sc.nd (piT K (pv 2)) (blkOk_by (own := [("_law_v", 4)]) (N := ["_law_graph_here", "_law_found", "_law_members", "_law_ring", "_law_v", "_law_u"]) (sc := defScope (top 257)) (by decide +kernel)) (fun _ _ _ _ _ => (pg_name (i := 4) sc.nd rfl (by first | exact Or.inl rfl | exact Or.inr rfl))) (fun _ _ _ _ _ => (pts_one (pt_cmpR op_ne (pe_callB (lenS K) (by rfl) B.len_ PySem.boot_len (pa_cons (pe_lc (own := [("_law_u", 5)]) (by rfl) sc.nd (piL K (pe_c c_law_near hr (by decide) (by rfl) (pa_cons (pv 0) (pa_cons (pv 4) pa_nil)))) (blkOk_by (by first | rfl | kernel_rfl)) (fun _ _ _ _ _ => (pg_name (i := 5) sc.nd rfl (by first | exact Or.inl rfl | exact Or.inr rfl))) (fun _ _ _ _ _ => (pts_one (pt_cmpR (inS K) (pv 5) (pv 2) (by rfl)))) (fun _ _ _ _ _ => (pv 5))) pa_nil)) pe_int (nomark _)))) (fun _ _ _ _ _ => (pv 4))) pa_nil)) pe_int (nomark _))))) (pss_cons (ps_set (i := 3) sc.nd rfl (by first | exact Or.inl rfl | exact Or.inr rfl) (pe_c c_law_ring_of hr (by decide) (by rfl) (pa_cons (pv 0) (pa_cons (pv 2) pa_nil))))
      (pss_one (ps_if (PW.pt (pw_and (pt_cmpR op_eq (pe_callB (lenS K) (by rfl) B.len_ PySem.boot_len (pa_cons (pv 3) pa_nil)) (pe_callB (lenS K) (by rfl) B.len_ PySem.boot_len (pa_cons (pv 2) pa_nil)) (nomark _)) (pw_and1 (pt_val (pe_c c_law_is_hole hr (by decide) (by rfl) (pa_cons (pv 0) (pa_cons (pv 3) pa_nil))))))) (pss_one (ps_expr (bmS K PySem.F.plainAttrs_list PySem.F.slot_list_append PySem.F.type_list_append mt_append (pv 1) (pa_cons (pv 3) pa_nil)))) pss_nil))) pss_nil)))
      (pss_one (ps_ret (pv 1))))), ?_⟩
    have hlo := O.lo
    have hhi := O.hi
    refine q_asgL (xs := []) (el_lst ea_nil (by decide)) fun F H1 hF e1 hF1 => ?_
    refine go_seq (ev_n (ev_var rfl) (G.ex e1) H1 (Ex.refl H1) _ fun H2 e2 => ⟨n, rfl, RgOk.of_le (by omega) (by omega) (by omega) (by omega), fun p2 hp2 => ?_⟩)
    rw [rgV_ints]
    have e3 : Ex H2 (upd H2 p2 (.lst ((rgI 0 n.toNat).map V.int))) := Ex.new hp2
    refine ⟨_, ⟨p2, rgI 0 n.toNat, rfl, sq_of upd_same, by rw [rgI_len]; omega, rfl⟩, fun v H4 e4 hv => ?_⟩
    obtain ⟨l, xs, rfl, hlf, hl, hxs⟩ := hv
    have e24 := (e2.trans e3).trans e4
    have hlF : l ≠ F := fun z => by
      rw [z, (e2.trans e3) _ _ hF1] at hlf
      cases hlf
    have hSL := subs_len n.toNat (rgI 0 n.toNat) (rgI_len _ _)
    have h128 : 2 ^ n.toNat ≤ 2 ^ 7 := Nat.pow_le_pow_right (by decide) (by omega)
    have hxl := dpa_len hxs
    rw [List.length_map] at hxl
    refine q_forLn (tl := tC (.ref l)) (xs := xs) (K := K) (D := { nx := fun _ H' => Q .non H', rt := Q }) ev_c (sq_of hl) (fun i σ' H' => (∃ x y, σ' = [some g, some (.ref F), x, y, none, none]) ∧ Ex H H' ∧ H' l = some (.lst xs) ∧ DpAll K H' xs ((subs (rgI 0 n.toNat)).map fun l => .tuple (l.map PyData.int)) ∧
        ∃ fs, ∃ hs : List (List Int), H' F = some (.lst fs) ∧ fs.length ≤ i ∧ DpAll K H' fs (hs.map fun l => .tuple (l.map PyData.int)) ∧ (hs = [] ∨ ∃ h, HoleP (adj es) h) ∧ ∀ M ∈ (subs (rgI 0 n.toNat)).take i, Cand n es M → hs ≠ [])
      (fun H5 e5 => ⟨⟨_, _, rfl⟩, (e1.trans e24).trans e5, e5 _ _ hl, dpa_ex e5 hxs, [], [], e5 _ _ (e24 _ _ hF1), Nat.le_refl _, .nil, .inl rfl, fun M hM => nomatch hM⟩) (fun i σ' H' _ h => sq_of h.2.2.1) (fun i x σ' H' hx h => ?_) (fun σ' H' h => ?_)
    · obtain ⟨⟨x1, x2, rfl⟩, e5, hl5, hx5, fs, hs, hF5, hfl, hfs, hh, hC⟩ := h
      obtain ⟨M, hM, hdM⟩ := enc_at hx5 hx
      obtain ⟨m, rfl, hm⟩ := dp_ints_ti hdM
      have hi : i < xs.length := (List.getElem?_eq_some_iff.mp hx).1
      have hsub := (mem_subs n.toNat (rgI 0 n.toNat) M (rgI_len _ _)).mp (List.mem_of_getElem? hM)
      have ndM : M.Nodup := hsub.nodup (rgI_nodup 0 n.toNat)
      have gM := no_hole_range O (fun x hx => hsub.subset hx) ndM
      have hMl := gM.len
      have tk : (subs (rgI 0 n.toNat)).take (i + 1) = (subs (rgI 0 n.toNat)).take i ++ [M] := by rw [List.take_add_one, hM]; rfl
      -- a turn that appends nothing
      have skip : ∀ H6 y, Ex H' H6 → ¬ Cand n es M → (∃ x y2, [some g, some (.ref F), some (.ref m), y, none, none] = [some g, some (.ref F), x, y2, none, none]) ∧ Ex H H6 ∧ H6 l = some (.lst xs) ∧ DpAll K H6 xs ((subs (rgI 0 n.toNat)).map fun l => .tuple (l.map PyData.int)) ∧
          ∃ fs, ∃ hs : List (List Int), H6 F = some (.lst fs) ∧ fs.length ≤ i + 1 ∧ DpAll K H6 fs (hs.map fun l => .tuple (l.map PyData.int)) ∧ (hs = [] ∨ ∃ h, HoleP (adj es) h) ∧ ∀ M ∈ (subs (rgI 0 n.toNat)).take (i + 1), Cand n es M → hs ≠ [] := fun H6 y e6 hn =>
        ⟨⟨_, _, rfl⟩, e5.trans e6, e6 _ _ hl5, dpa_ex e6 hx5, fs, hs, e6 _ _ hF5, by omega, dpa_ex e6 hfs, hh, fun N hN hc => by
          rw [tk] at hN
          rcases List.mem_append.mp hN with hN | hN
          · exact hC N hN hc
          · have : N = M := by simpa using hN
            rw [this] at hc
            exact absurd hc hn⟩
      have L := en_T (K := K) (H := H') (σ := [some g, some (.ref F), some (.ref m), x2, none, none]) (tl := tVar 2) (g := gName 4) (vs := [4]) (enc := PyData.int) (as := M) (f := fun v => decide (((inM n es M v).length : Int) ≠ 2)) (r := fun v => .int v) (te := tVar 4)
        (t := tTest (tOp rNe (tCB (Evl.rLenS K) (tCons (tLc (iList K (tCall (sp_law_near K) [] C8.E0 (tCons (tVar 0) (tCons (tVar 4) tNil)))) (gName 5) (tTest (tOp (rIn K false) (tVar 5) (tVar 2))) (tVar 5) [5]) tNil)) (tC (.int 2))))
        (τ := fun _ x => [some g, some (.ref F), some (.ref m), x2, some x, none]) (evd_v (ev_var rfl) (dp_ints_t hm)) (by omega) (fun _ => rfl) (fun a x H1 R hx hR => hR) (fun a x H1 hx => rfl)
        (fun v x H6 _ e6 hx => by
          rw [dp_int hx]
          have L2 := en_L (K := K) (H := H6) (σ := [some g, some (.ref F), some (.ref m), x2, some (.int v), none]) (tl := tCall (sp_law_near K) [] C8.E0 (tCons (tVar 0) (tCons (tVar 4) tNil))) (g := gName 5) (vs := [5]) (enc := PyData.int) (as := nearL n es v) (te := tVar 5) (t := tTest (tOp (rIn K false) (tVar 5) (tVar 2)))
            (f := fun u => decide (u ∈ M)) (r := fun u => .int u) (τ := fun _ x => [some g, some (.ref F), some (.ref m), x2, some (.int v), some x]) (evd_near (ev_var rfl) (ev_var rfl) (G.ex (e5.trans e6)) O)
            (by
              have := List.length_filter_le (fun u => decide (u ≠ v) && adjB es u v) (rgI 0 n.toNat)
              rw [rgI_len] at this
              show ((rgI 0 n.toNat).filter _).length ≤ 40000
              omega) (fun _ => rfl) (fun a x H1 R hx hR => hR) (fun a x H1 hx => rfl)
            (fun u x H7 _ e7 hx => by
              rw [dp_int hx]
              refine et_is (et_test (ev_op (ev_var rfl) (ev_var rfl) (rv_isT (ex_t (e6.trans e7) hm) rfl (flat_ints M)))) ?_
              rw [inV_ints]) (fun u x H7 _ _ hx _ => by rw [dp_int hx]; exact evd_int (ev_var rfl))
          refine et_test (ev_neI (ev_is (ev_lenD L2) ?_) ev_c)
          rw [List.length_map]
          rfl) (fun a x H1 _ _ hx _ => by rw [dp_int hx]; exact evd_int (ev_var rfl))
      refine s_when (b := decide (3 < (M.length : Int)) && decide (((badV n es M).length : Int) = 0)) (et_and (et_test (ev_gt (ev_is (ev_lenT (ev_var rfl) hm) (by rw [List.length_map])) ev_c)) fun _ => et_test (ev_eqI (ev_is (ev_lenD L) (by rw [List.length_map]; rfl)) ev_c)) (fun hb H6 e6 => ?_) (fun hb H6 e6 => ?_)
      · simp only [Bool.and_eq_true, decide_eq_true_eq] at hb
        have h3 : 3 < M.length := by omega
        have hbad : (badV n es M).length = 0 := by omega
        have hm6 := ex_t e6 hm
        refine go_seqA ⟨_, rfl, _, rfl, _, ⟨g, n, es, m, M, rfl, G.ex (e5.trans e6), hm6, List.ne_nil_of_length_pos (by omega), hMl, rfl⟩, fun v H7 e7 hv => ?_⟩
        obtain ⟨r, rfl, hr⟩ := hv
        have gd : ∀ hlen : (ringOf (adjB es) M).length = M.length, HoleArg K H7 g r := fun hlen => by
          have I := ring_inv (A := adj es) (adjB_iff es) (List.ne_nil_of_length_pos (by omega) : M ≠ []) (M.length - 1)
          refine ⟨n, es, ringOf (adjB es) M, G.ex ((e5.trans e6).trans e7), hr, no_hole_range O (fun x hx => hsub.subset (I.sub x hx)) I.nd, O, cand_hole O ndM h3 hbad hlen⟩
        refine s_when (b := decide (((ringOf (adjB es) M).length : Int) = (M.length : Int)) && true) (et_and (et_test (ev_eqI (ev_is (ev_lenT (ev_var rfl) hr) (by rw [List.length_map])) (ev_is (ev_lenT (ev_var rfl) (ex_t e7 hm6)) (by rw [List.length_map])))) fun hb2 => et_B (ev_call2 (ev_var rfl) (ev_var rfl) (sv_lhole (gd (by have := of_decide_eq_true hb2; omega))))) (fun hb2 H8 e8 => ?_) (fun hb2 H8 e8 => ?_)
        · rw [Bool.and_true] at hb2
          have hlen : (ringOf (adjB es) M).length = M.length := by
            have := of_decide_eq_true hb2
            omega
          have e68 := (e6.trans e7).trans e8
          refine s_app (e68 _ _ hF5) (ev_var rfl) (ev_var rfl) (by omega) fun H9 e9 => ?_
          have tx : Tx H9 (upd H9 F (.lst (fs ++ [.ref r]))) := Tx.upd ((e68.trans e9) _ _ hF5) rfl
          have noLs_tups : ∀ ls : List (List Int), noLs (ls.map fun l => PyData.tuple (l.map PyData.int)) = true := fun ls => by
            induction ls with
            | nil => rfl
            | cons a r ih =>
              show (noL (.tuple (a.map PyData.int)) && noLs (r.map fun l => PyData.tuple (l.map PyData.int))) = true
              rw [noL_ints, ih]
              rfl
          refine ⟨⟨_, _, rfl⟩, Ex.mut ((e5.trans e68).trans e9) hF, by rw [upd_ne hlF]; exact (e68.trans e9) _ _ hl5, dpa_tx tx (noLs_tups _) (dpa_ex (e68.trans e9) hx5), fs ++ [.ref r], hs ++ [ringOf (adjB es) M], upd_same, by rw [List.length_append]; simp; omega, ?_, .inr ⟨_, cand_hole O ndM h3 hbad hlen⟩, fun _ _ _ => by simp⟩
          rw [List.map_append]
          exact dpa_app (dpa_tx tx (noLs_tups _) (dpa_ex (e68.trans e9) hfs)) (.cons (dp_tx tx (noL_ints _) (dp_ints_t (ex_t (e8.trans e9) hr))) .nil)
        · rw [Bool.and_true] at hb2
          refine skip H8 _ ((e6.trans e7).trans e8) fun hc => ?_
          have := of_decide_eq_false hb2
          exact this (by rw [hc.2.2])
      · refine skip H6 _ e6 fun hc => ?_
        have h1 : decide (3 < (M.length : Int)) = true := decide_eq_true (by have := hc.1; omega)
        have h2 : decide (((badV n es M).length : Int) = 0) = true := decide_eq_true (by have := hc.2.1; omega)
        rw [h1, h2] at hb
        cases hb
    · obtain ⟨⟨x1, x2, rfl⟩, e5, hl5, hx5, fs, hs, hF5, hfl, hfs, hh, hC⟩ := h
      refine go_ret ⟨_, rfl, ?_⟩
      refine q _ _ e5 ⟨hs, ⟨F, fs, rfl, hF, hF5, hfs⟩, fun nh => ?_, fun hhole => ?_⟩
      · rcases hh with hh | ⟨h, hh⟩
        · exact hh
        · exact absurd hh (no_hole O.irr nh h)
      · obtain ⟨h, hh⟩ := hhole
        obtain ⟨M, hM, hc⟩ := hole_cand O hh
        refine hC M ?_ hc
        rw [hxl, List.take_length]
        exact (mem_subs n.toNat (rgI 0 n.toNat) M (rgI_len _ _)).mpr hM
end
end Tr
namespace Tr
open PySem PySem.Spec PyProof.Rows L2 Evl StX
open C8 (Cal pe_c pe_gc)
section
variable {P : Program} {w : World} {K : PySem.W.Frag} {mg : Str → Option Value} {base : Heap}
theorem sc_law_chordal_right : FnScope ["_law_graph_here", "_law_answer", "_law_data", "_law_k", "_law_near_here", "_law_u", "_law_pair"] ["_law_graph_here", "_law_answer", "_law_data"] (defScope (top 258)) := ⟨rfl, rfl, rfl, by decide +kernel, rfl, by decide +kernel, by decide +kernel⟩
theorem ok_law_chordal_right (D : DefAt K mg "_law_chordal_right" 258) (B : Bt mg) (c_law_is_hole : Ca P w K mg base 4 "_law_is_hole" (sp_law_is_hole K)) (c_law_is_row : Ca P w K mg base 2 "_law_is_row" (sp_law_is_row K)) (c_law_met : Ca P w K mg base 1 "_law_met" (sp_law_met K)) (c_law_pairs : Ca P w K mg base 1 "_law_pairs" (sp_law_pairs K)) : Ca P w K mg base 5 "_law_chordal_right" (sp_law_chordal_right K) := by
  refine D.mk (k := 4) sc_law_chordal_right (fun _ _ _ _ _ _ us hl => match us, hl with | [_, _, _], _ => rfl) (fun vs H Q E h => ?_) (fun f cdv A outer s H vs Q E hr h => ?_)
  · obtain ⟨_, ⟨g, t, h, _⟩, _⟩ := h
    rcases h with ⟨rfl, _⟩ | ⟨rfl, _⟩ <;> rfl
  · obtain ⟨_, ⟨g, t, h, rfl⟩, q⟩ := h
    have hu := hu_of hr
    have hu65 := hu65_of hr
    have sc := sc_law_chordal_right
    refine ⟨_, (pss_cons (ps_if (pt_cmpR op_eq (pv 1) pe_str (nomark _)) (pss_one (ps_ret (pe_c c_law_is_hole hr (by decide) (by rfl) (pa_cons (pv 0) (pa_cons (pv 2) pa_nil))))) pss_nil)
      (pss_cons (ps_if (PW.pt (pw_or (pt_not (pt_val (pe_c c_law_is_row hr (by decide) (by rfl) (pa_cons (pv 0) (pa_cons (pv 2) pa_nil))))) (pw_or1 (pt_cmpR op_ne (pe_callB (lenS K) (by rfl) B.len_ PySem.boot_len (pa_cons (pv 2) pa_nil)) (pe_ix (ixT K) (pv 0) pe_int (fun _ _ => rfl)) (nomark _))))) (pss_one (ps_ret pe_bl)) pss_nil)
      (pss_cons (ps_for PassesOwn.never rfl (pi_range1 (by rfl) B.range_ (pa_cons (pe_callB (lenS K) (by rfl) B.len_ PySem.boot_len (pa_cons (pv 2) pa_nil)) pa_nil)) (pg_name (i := 3) sc.nd rfl (by first | exact Or.inl rfl | exact Or.inr rfl)) (pss_cons (ps_set (i := 4) sc.nd rfl (by first | exact Or.inl rfl | exact Or.inr rfl) (pe_lc (own := [("_law_u", 5)]) (by rfl) sc.nd (piT K (pe_slice (slT K) (pv 2) (po_some (pe_op op_add (pv 3) pe_int)) po_none)) (blkOk_by (own := [("_law_u", 5)]) (N := ["_law_graph_here", "_law_answer", "_law_data", "_law_k", "_law_near_here", "_law_u", "_law_pair"]) (sc := defScope (top 258)) (by decide +kernel)) (fun _ _ _ _ _ => (pg_name (i := 5) sc.nd rfl (by first | exact Or.inl rfl | exact Or.inr rfl))) (fun _ _ _ _ _ => (pts_one (pt_val (pe_c c_law_met hr (by decide) (by rfl) (pa_cons (pv 0) (pa_cons (pv 5) (pa_cons (pe_ix (ixT K) (pv 2) (pv 3) (fun _ _ => rfl)) pa_nil))))))) (fun _ _ _ _ _ => (pv 5))))
      (pss_one (ps_if (pt_cmpR op_gt (pe_callB (lenS K) (by rfl) B.len_ PySem.boot_len (pa_cons (pe_lc (own := [("_law_pair", 6)]) (by rfl) sc.nd (piL K (pe_c c_law_pairs hr (by decide) (by rfl) (pa_cons (pe_callB (lenS K) (by rfl) B.len_ PySem.boot_len (pa_cons (pv 4) pa_nil)) pa_nil))) (blkOk_by (own := [("_law_pair", 6)]) (N := ["_law_graph_here", "_law_answer", "_law_data", "_law_k", "_law_near_here", "_law_u", "_law_pair"]) (sc := defScope (top 258)) (by decide +kernel)) (fun _ _ _ _ _ => (pg_name (i := 6) sc.nd rfl (by first | exact Or.inl rfl | exact Or.inr rfl))) (fun _ _ _ _ _ => (pts_one (pt_not (pt_val (pe_c c_law_met hr (by decide) (by rfl) (pa_cons (pv 0) (pa_cons (pe_ix (ixL K) (pv 4) (pe_ix (ixT K) (pv 6) pe_int (fun _ _ => rfl)) (fun _ _ => rfl)) (pa_cons (pe_ix (ixL K) (pv 4) (pe_ix (ixT K) (pv 6) pe_int (fun _ _ => rfl)) (fun _ _ => rfl)) pa_nil)))))))) (fun _ _ _ _ _ => (pv 6))) pa_nil)) pe_int (nomark _)) (pss_one (ps_ret pe_bl)) pss_nil))))
      (pss_one (ps_ret pe_bl))))), ?_⟩
    rcases h with ⟨rfl, hA⟩ | ⟨rfl, hA⟩
    · refine q_when (b := true) (et_is (et_test (ev_op (ev_var rfl) ev_c (rv_eq rfl))) (by decide)) (fun _ H1 e1 => ?_) (fun z => nomatch z)
      exact s_ret (v := .bl true) (ev_call2 (ev_var rfl) (ev_var rfl) (sv_lhole (hA.ex e1))) fun H2 e2 => q _ _ (e1.trans e2) rfl
    · refine q_when (b := false) (et_is (et_test (ev_op (ev_var rfl) ev_c (rv_eq rfl))) (by decide)) (fun z => nomatch z) (fun _ H1 e1 => ?_)
      obtain ⟨n, es, ks, G, hT, hg, O, hn, hP⟩ := hA.ex e1
      have hl := hg.len
      have hhi := O.hi
      have hlk : ((ks.map V.int).length : Int) = (ks.length : Int) := by rw [List.length_map]
      refine q_when (b := false) (et_is (et_or (et_not (et_B (ev_call2 (ev_var rfl) (ev_var rfl) (sv_row G hT hg)))) fun _ => et_test (ev_neI (ev_is (ev_lenT (ev_var rfl) hT) (congrArg V.int hlk)) (ev_n (ev_var rfl) G))) (by simp [hn])) (fun z => nomatch z) (fun _ H2 e2 => ?_)
      refine q_forR1 (n := (ks.length : Int)) (ea_cons (ev_is (ev_lenT (ev_var rfl) (ex_t e2 hT)) (congrArg V.int hlk)) ea_nil) (by omega) (fun i σ' H' => (∃ x y, σ' = [some g, some (.str "yes"), some (.ref t), x, y, none, none]) ∧ Ex H1 H') (fun H3 e3 => ⟨⟨_, _, rfl⟩, e2.trans e3⟩) (fun k σ' H' hk h => ?_) (fun σ' H' h => ?_)
      · obtain ⟨⟨x1, x2, rfl⟩, e3⟩ := h
        have hk2 : k < ks.length := by omega
        have hT3 := ex_t e3 hT
        have L1 := en_T (K := K) (H := H') (σ := [some g, some (.str "yes"), some (.ref t), some (.int (k : Int)), x2, none, none]) (tl := tSl (rSlA K) (tVar 2) (tPart (tOp (rI0 fun i j => .int (i + j)) (tVar 3) (tC (.int 1)))) tNoPart) (g := gName 5) (vs := [5])
          (te := tVar 5) (t := tB (tCall (sp_law_met K) [] C8.E0 (tCons (tVar 0) (tCons (tVar 5) (tCons (tOp (rIxT K) (tVar 2) (tVar 3)) tNil))))) (enc := PyData.int) (as := ks.drop (k + 1)) (f := fun v => adjB es v ks[k]) (r := fun v => .int v) (τ := fun _ x => [some g, some (.str "yes"), some (.ref t), some (.int (k : Int)), x2, some x, none])
          (evd_U (xs := (ks.map V.int).drop (k + 1)) (eu_from (k := k + 1) (ev_var rfl) hT3 (by omega) (by rw [List.length_map]; omega) (ev_is (ev_add (i := (k : Int)) (j := 1) (ev_var rfl) ev_c) (by simp))) (by rw [← List.map_drop]; exact dpa_ints _)) (by rw [List.length_drop]; omega) (fun _ => rfl)
          (fun a x H1 R hx hR => hR) (fun a x H1 hx => rfl) (fun a x H4 _ e hx => by
            rw [dp_int hx]
            exact et_B (ev_call3 (ev_var rfl) (ev_var rfl) (ev_ixT (j := k) (ev_var rfl) (ev_var rfl) (ex_t e hT3) (int_at hk2)) (sv_met (G.ex (e3.trans e))))) (fun a x H2 _ _ hx _ => by rw [dp_int hx]; exact evd_int (ev_var rfl))
        have hNl : ((ks.drop (k + 1)).filter fun v => adjB es v ks[k]).length ≤ 7 := by
          refine Nat.le_trans (List.length_filter_le _ _) ?_
          rw [List.length_drop]
          omega
        have hNnd : ((ks.drop (k + 1)).filter fun v => adjB es v ks[k]).Nodup := (hg.nd.sublist (List.drop_sublist _ _)).filter _
        have hNm : ∀ y, y ∈ ((ks.drop (k + 1)).filter fun v => adjB es v ks[k]) → y ∈ ks.drop (k + 1) ∧ adj es ks[k] y := fun y hy => by
          rw [List.mem_filter, adjB_iff] at hy
          exact ⟨hy.1, adj_sym _ _ hy.2⟩
        refine q_asgL (EvN.ints (K := K) (ks := (ks.drop (k + 1)).filter fun v => adjB es v ks[k]) L1) fun l H4 hlf e4 h4 => ?_
        generalize ((ks.drop (k + 1)).filter fun v => adjB es v ks[k]) = N at hNl hNnd hNm h4
        have hlN : ((N.map V.int).length : Int) = (N.length : Int) := by rw [List.length_map]
        have L2 := en_L (K := K) (H := H4) (σ := [some g, some (.str "yes"), some (.ref t), some (.int (k : Int)), some (.ref l), none, none]) (tl := tCall (sp_law_pairs K) [] C8.E0 (tCons (tCB (Evl.rLenS K) (tCons (tVar 4) tNil)) tNil)) (g := gName 6) (vs := [6]) (enc := pD) (as := rows2 (N.length : Int)) (f := fun p => !adjB es (N.getD p.1.toNat 0) (N.getD p.2.toNat 0)) (r := pD)
          (te := tVar 6) (t := tNot (tB (tCall (sp_law_met K) [] C8.E0 (tCons (tVar 0) (tCons (tOp (rIxL K) (tVar 4) (tOp (rIxT K) (tVar 6) (tC (.int 0)))) (tCons (tOp (rIxL K) (tVar 4) (tOp (rIxT K) (tVar 6) (tC (.int 1)))) tNil)))))) (τ := fun _ x => [some g, some (.str "yes"), some (.ref t), some (.int (k : Int)), some (.ref l), none, some x])
          (evd_pairs (ev_is (ev_len (ev_var rfl) (sq_of h4)) (congrArg V.int hlN)) (by omega) (by omega)) (by have := rows2_len (n := (N.length : Int)) 7 (by omega); omega) noL_pair (fun a x H1 R hx hR => hR) (fun a x H1 hx => rfl)
          (fun p x H5 hp e5 hx => by
            have hgd := mem_rows2.mp hp
            have hl5 := sq_of (K := K) (e5 _ _ h4)
            exact et_not (et_B (ev_call3 (ev_var rfl) (ev_ixI (ev_var rfl) (ev_p0 (ev_var rfl) hx) hl5 (by omega) (by omega)) (ev_ixI (ev_var rfl) (ev_p1 (ev_var rfl) hx) hl5 (by omega) (by omega)) (sv_met (G.ex ((e3.trans e4).trans e5)))))) (fun a x H2 _ _ hx _ => evd_v (ev_var rfl) hx)
        refine s_when (b := false) (et_is (et_test (ev_gt (ev_lenD L2) ev_c)) ?_) (fun z => nomatch z) (fun _ H5 e5 => ⟨⟨_, _, rfl⟩, (e3.trans e4).trans e5⟩)
        rw [len_filter0 fun p hp => ?_]
        · rfl
        · have hgd := mem_rows2.mp hp
          have h1 : p.1.toNat < N.length := by omega
          have h2 : p.2.toNat < N.length := by omega
          rw [getD_at h1, getD_at h2]
          have m1 := hNm _ (List.getElem_mem h1)
          have m2 := hNm _ (List.getElem_mem h2)
          have hne : N[p.1.toNat] ≠ N[p.2.toNat] := fun z => by
            have := (List.getElem_inj hNnd).mp z
            omega
          rw [(adjB_iff _ _ _).mpr (hP k hk2 _ m1.1 _ m2.1 m1.2 m2.2 hne)]
          rfl
      · obtain ⟨⟨x1, x2, rfl⟩, e3⟩ := h
        exact q _ _ (e1.trans e3) rfl
theorem sc_law_leaves : FnScope ["_law_tree", "_law_found", "_law_part"] ["_law_tree"] (defScope (top 248)) := ⟨rfl, rfl, rfl, by decide +kernel, rfl, by decide +kernel, by decide +kernel⟩
theorem ok_law_leavesD (D : DefAt K mg "_law_leaves" 248) (B : Bt mg) (d : Nat) : Ca P w K mg base (d + 1) "_law_leaves" (sp_law_leavesD K d) := by
  induction d with
  | zero => exact D.mk (k := 0) sc_law_leaves (fun _ _ _ _ _ _ us hl => match us, hl with | [_], _ => rfl) (fun vs H Q E h => h.elim) (fun f cdv A outer s H vs Q E hr h => h.elim)
  | succ d ih =>
    have c_law_leaves := ih
    refine D.mk (k := d + 1) sc_law_leaves (fun _ _ _ _ _ _ us hl => match us, hl with | [_], _ => rfl) (fun vs H Q E h => ?_) (fun f cdv A outer s H vs Q E hr h => ?_)
    · obtain ⟨_, ⟨v, dt, ls, rfl, _⟩, _⟩ := h
      rfl
    · obtain ⟨_, ⟨v, dt, ls, rfl, hd, hT, hz, rfl⟩, q⟩ := h
      have hu := hu_of hr
      have hu65 := hu65_of hr
      have sc := sc_law_leaves
      refine ⟨_, (pss_cons (ps_if (pt_not (pt_val (pe_callB (isiS K) (by rfl) B.isinstance_ (by decide +kernel) (pa_cons (pv 0) (pa_cons (pe_bltn (v := .ty "tuple") (by rfl) B.tuple_ (by decide +kernel) rfl) pa_nil))))) (pss_one (ps_ret (pe_lst (pa_cons (pv 0) pa_nil)))) pss_nil)
      (pss_cons (ps_set (i := 1) sc.nd rfl (by first | exact Or.inl rfl | exact Or.inr rfl) (pe_lst pa_nil))
      (pss_cons (ps_for PassesOwn.never rfl (piT K (pe_slice (slT K) (pv 0) (po_some pe_int) po_none)) (pg_name (i := 2) sc.nd rfl (by first | exact Or.inl rfl | exact Or.inr rfl)) (pss_one (ps_set (i := 1) sc.nd rfl (by first | exact Or.inl rfl | exact Or.inr rfl) (pe_op op_cat (pv 1) (pe_c c_law_leaves hr (Nat.le_refl _) (by rfl) (pa_cons (pv 2) pa_nil))))))
      (pss_one (ps_ret (pv 1)))))), ?_⟩
      have key : (∃ i : Int, dt = .int i ∧ ls = [i]) ∨ ∃ k, k < d ∧ ∃ s ps lss, dt = .tuple (.str s :: ps) ∧ AllTr (TrD k) ps lss ∧ ls = lss.flatten ∧ d = k + 1 := by
        cases d with
        | zero => exact .inl hT
        | succ k =>
          rcases hT with h | ⟨s, ps, lss, h1, h2, h3⟩
          · exact .inl h
          · exact .inr ⟨k, by omega, s, ps, lss, h1, h2, h3, rfl⟩
      rcases key with ⟨i, rfl, rfl⟩ | ⟨k, _, s, ps, lss, rfl, hps, rfl, rfl⟩
      · rw [dp_int hd]
        refine q_when (b := true) (et_is (et_not (et_B (ev_isi (b := false) (ev_var rfl) (.base (.int _)) (by decide +kernel)))) rfl) (fun _ H1 e1 => ?_) (fun z => nomatch z)
        refine go_ret (el_lst (ea_cons (ev_var rfl) ea_nil) (by show 1 ≤ 100000; decide) H1 (Ex.refl H1) _ fun p H2 hp e2 h2 => ?_)
        exact q _ _ (e1.trans e2) ⟨p, rfl, fresh_back e1 hp, h2⟩
      · obtain ⟨a, xs, rfl, ha, hxs⟩ := dp_tup hd
        refine q_when (b := false) (et_is (et_not (et_B (ev_isi (b := true) (ev_var rfl) (ty_t ha) (by decide +kernel)))) rfl) (fun z => nomatch z) (fun _ H1 e1 => ?_)
        refine q_asgL (xs := []) (el_lst ea_nil (by decide)) fun F H2 hF e2 hF2 => ?_
        have e12 := e1.trans e2
        have hF0 := fresh_back e1 hF
        have hlx := dpa_len hxs
        refine go_seq (eu_from (k := 1) (ev_var rfl) (ex_t e12 ha) (Nat.le_refl _) (by rw [hlx]; simp) ev_c H2 (Ex.refl H2) _ fun p H3 hp e3 h3 => ?_)
        have hdr : DpAll K H3 (xs.drop 1) ps := dpa_ex (e12.trans e3) (dpa_drop 1 hxs)
        have hlp : (xs.drop 1).length = ps.length := dpa_len hdr
        have hll := allTr_len hps
        refine q_forT (tl := tC (.ref p)) (g := gName 2) (xs := xs.drop 1) (K := K) (D := { nx := fun _ H' => Q .non H', rt := Q }) ev_c (st_of h3) (fun i σ' H' => (∃ F x, σ' = [some (.ref a), some (.ref F), x] ∧ H F = none ∧ H' F = some (.lst ((lss.take i).flatten.map V.int))) ∧ Ex H H' ∧ Ex H3 H')
          (fun H4 e4 => ⟨⟨F, _, rfl, hF0, (e3.trans e4) _ _ hF2⟩, (e12.trans e3).trans e4, e4⟩) (fun i σ' H' _ h => ex_t h.2.2 (st_of h3)) (fun i x σ' H' hx h => ?_) (fun σ' H' h => ?_)
        · obtain ⟨⟨F, x1, rfl, hF, hF4⟩, e4, e34⟩ := h
          obtain ⟨dt, hdt, hdx⟩ := dpa_get hdr hx
          obtain ⟨l, hl, hTl⟩ := allTr_at hps hdt
          have hmem := List.mem_of_getElem? hl
          have hi := (List.getElem?_eq_some_iff.mp hl).1
          have tk : lss.take (i + 1) = lss.take i ++ [l] := by rw [List.take_add_one, hl]; rfl
          have hlen : (lss.take i).flatten.length + l.length ≤ lss.flatten.length := by
            have e : lss.flatten = (lss.take (i + 1)).flatten ++ (lss.drop (i + 1)).flatten := by rw [← List.flatten_append, List.take_append_drop]
            rw [e, tk, List.flatten_append, List.length_append, List.length_append]
            simp
          refine go_asg (go_op ⟨.ref F, rfl, _, rfl, _, ⟨x, dt, l, rfl, dp_ex e34 hdx, hTl, by omega, rfl⟩, fun v H5 e5 hv => ?_⟩)
          obtain ⟨p5, rfl, hp5, h5⟩ := hv
          refine ⟨F, p5, _, _, rfl, rfl, e5 _ _ hF4, h5, sz_of (by rw [List.length_map, List.length_map]; omega), fun p6 hp6 => ?_⟩
          have e6 : Ex H5 (upd H5 p6 (.lst ((lss.take i).flatten.map V.int ++ l.map V.int))) := Ex.new hp6
          refine ⟨⟨p6, _, rfl, fresh_back (e4.trans e5) hp6, ?_⟩, (e4.trans e5).trans e6, (e34.trans e5).trans e6⟩
          rw [upd_same, tk, List.flatten_append, List.map_append]
          simp
        · obtain ⟨⟨F, x1, rfl, hF, hF4⟩, e4, e34⟩ := h
          rw [hlp, hll, List.take_length] at hF4
          refine go_ret ⟨_, rfl, ?_⟩
          exact q _ _ e4 ⟨F, rfl, hF, hF4⟩
end
end Tr
namespace Tr
open PySem PySem.Spec PyProof.Rows L2 Evl StX
open C8 (Cal pe_c pe_gc)
section
variable {P : Program} {w : World} {K : PySem.W.Frag} {mg : Str → Option Value} {base : Heap}
theorem goodP_more {F l : List Int} {ps : List (Int × Int)} {m : Nat} (h1 : ps.length ≤ F.length * F.length + l.length * l.length + m * l.length) (hm : m ≤ F.length) (h2 : ∀ q ∈ ps, q.1 ∈ F ++ l ∧ q.2 ∈ F ++ l ∧ q.1 ≠ q.2) : GoodP (F ++ l) ps := by
  refine ⟨?_, h2⟩
  rw [List.length_append]
  have h3 : m * l.length ≤ F.length * l.length := Nat.mul_le_mul_right _ hm
  have h4 : (F.length + l.length) * (F.length + l.length) = F.length * F.length + F.length * l.length + (l.length * F.length + l.length * l.length) := by rw [Nat.add_mul, Nat.mul_add, Nat.mul_add]
  omega
theorem mn_or (u v : Int) : mn u v = u ∨ mn u v = v := by unfold mn; split <;> simp
theorem mx_or (u v : Int) : mx u v = u ∨ mx u v = v := by unfold mx; split <;> simp
theorem mn_ne {u v : Int} (h : u ≠ v) : mn u v ≠ mx u v := by unfold mn mx; split <;> split <;> omega
theorem sc_law_tree_pairs : FnScope ["_law_tree", "_law_found", "_law_before", "_law_part", "_law_leaves_here", "_law_u", "_law_v"] ["_law_tree"] (defScope (top 249)) := ⟨rfl, rfl, rfl, by decide +kernel, rfl, by decide +kernel, by decide +kernel⟩
theorem ok_law_tree_pairsD (D : DefAt K mg "_law_tree_pairs" 249) (B : Bt mg) (c_law_leaves : Ca P w K mg base 8 "_law_leaves" (sp_law_leaves K)) (d : Nat) : Ca P w K mg base (d + 9) "_law_tree_pairs" (sp_law_tree_pairsD K d) := by
  induction d with
  | zero => exact D.mk (k := 8) sc_law_tree_pairs (fun _ _ _ _ _ _ us hl => match us, hl with | [_], _ => rfl) (fun vs H Q E h => h.elim) (fun f cdv A outer s H vs Q E hr h => h.elim)
  | succ d ih =>
    have c_law_tree_pairs := ih
    refine D.mk (k := d + 9) sc_law_tree_pairs (fun _ _ _ _ _ _ us hl => match us, hl with | [_], _ => rfl) (fun vs H Q E h => ?_) (fun f cdv A outer s H vs Q E hr h => ?_)
    · obtain ⟨_, ⟨v, dt, ls, rfl, _⟩, _⟩ := h
      rfl
    · obtain ⟨_, ⟨v, dt, ls, rfl, hd, hT, hd6, hz, hnd, rfl⟩, q⟩ := h
      have hu := hu_of hr
      have hu65 := hu65_of hr
      have sc := sc_law_tree_pairs
      refine ⟨_, (pss_cons (ps_if (pt_not (pt_val (pe_callB (isiS K) (by rfl) B.isinstance_ (by decide +kernel) (pa_cons (pv 0) (pa_cons (pe_bltn (v := .ty "tuple") (by rfl) B.tuple_ (by decide +kernel) rfl) pa_nil))))) (pss_one (ps_ret (pe_lst pa_nil))) pss_nil)
      (pss_cons (ps_set (i := 1) sc.nd rfl (by first | exact Or.inl rfl | exact Or.inr rfl) (pe_lst pa_nil))
      (pss_cons (ps_set (i := 2) sc.nd rfl (by first | exact Or.inl rfl | exact Or.inr rfl) (pe_lst pa_nil))
      (pss_cons (ps_for PassesOwn.never rfl (piT K (pe_slice (slT K) (pv 0) (po_some pe_int) po_none)) (pg_name (i := 3) sc.nd rfl (by first | exact Or.inl rfl | exact Or.inr rfl)) (pss_cons (ps_set (i := 1) sc.nd rfl (by first | exact Or.inl rfl | exact Or.inr rfl) (pe_op op_cat (pv 1) (pe_c c_law_tree_pairs hr (Nat.le_refl _) (by rfl) (pa_cons (pv 3) pa_nil))))
      (pss_cons (ps_set (i := 4) sc.nd rfl (by first | exact Or.inl rfl | exact Or.inr rfl) (pe_c c_law_leaves hr (by omega) (by rfl) (pa_cons (pv 3) pa_nil)))
      (pss_cons (ps_if (pt_cmpR op_eq (pe_ix (ixT K) (pv 0) pe_int (fun _ _ => rfl)) pe_str (nomark _)) (pss_one (ps_for PassesOwn.never rfl (piL K (pv 2)) (pg_name (i := 5) sc.nd rfl (by first | exact Or.inl rfl | exact Or.inr rfl)) (pss_one (ps_set (i := 1) sc.nd rfl (by first | exact Or.inl rfl | exact Or.inr rfl) (pe_op op_cat (pv 1) (pe_lc (own := [("_law_v", 6)]) (by rfl) sc.nd (piL K (pv 4)) (blkOk_by (own := [("_law_v", 6)]) (N := ["_law_tree", "_law_found", "_law_before", "_law_part", "_law_leaves_here", "_law_u", "_law_v"]) (sc := defScope (top 249)) (by decide +kernel)) (fun _ _ _ _ _ => (pg_name (i := 6) sc.nd rfl (by first | exact Or.inl rfl | exact Or.inr rfl))) (fun _ _ _ _ _ => pts_nil) (fun _ _ _ _ _ => (pe_tup (pa_cons (pe_callB (call_min2 rfl) (by rfl) B.min_ (by decide +kernel) (pa_cons (pv 5) (pa_cons (pv 6) pa_nil))) (pa_cons (pe_callB (call_max2 rfl) (by rfl) B.max_ (by decide +kernel) (pa_cons (pv 5) (pa_cons (pv 6) pa_nil))) pa_nil)))))))))) pss_nil)
      (pss_one (ps_set (i := 2) sc.nd rfl (by first | exact Or.inl rfl | exact Or.inr rfl) (pe_op op_cat (pv 2) (pv 4))))))))
      (pss_one (ps_ret (pv 1))))))), ?_⟩
      have key : (∃ i : Int, dt = .int i ∧ ls = [i]) ∨ ∃ k, k < d ∧ ∃ s ps lss, dt = .tuple (.str s :: ps) ∧ AllTr (TrD k) ps lss ∧ ls = lss.flatten ∧ d = k + 1 := by
        cases d with
        | zero => exact .inl hT
        | succ k =>
          rcases hT with h | ⟨s, ps, lss, h1, h2, h3⟩
          · exact .inl h
          · exact .inr ⟨k, by omega, s, ps, lss, h1, h2, h3, rfl⟩
      rcases key with ⟨i, rfl, rfl⟩ | ⟨k, _, s, ps, lss, rfl, hps, rfl, rfl⟩
      · rw [dp_int hd]
        refine q_when (b := true) (et_is (et_not (et_B (ev_isi (b := false) (ev_var rfl) (.base (.int _)) (by decide +kernel)))) rfl) (fun _ H1 e1 => ?_) (fun z => nomatch z)
        refine go_ret (el_lst ea_nil (by decide) H1 (Ex.refl H1) _ fun p H2 hp e2 h2 => ?_)
        exact q _ _ (e1.trans e2) ⟨p, [], [], rfl, fresh_back e1 hp, h2, .nil, Nat.zero_le _, fun q hq => nomatch hq⟩
      · obtain ⟨a, xs, rfl, ha, hxs⟩ := dp_tup hd
        obtain ⟨y0, hy0, hdy0⟩ := dpa_at hxs (i := 0) (d := .str s) rfl
        have ey : y0 = .str s := by cases hdy0; rfl
        subst ey
        refine q_when (b := false) (et_is (et_not (et_B (ev_isi (b := true) (ev_var rfl) (ty_t ha) (by decide +kernel)))) rfl) (fun z => nomatch z) (fun _ H1 e1 => ?_)
        refine q_asgL (xs := []) (el_lst ea_nil (by decide)) fun F H2 hF e2 hF2 => ?_
        refine q_asgL (xs := []) (el_lst ea_nil (by decide)) fun Bf H21 hB e21 hB2 => ?_
        have e12 := (e1.trans e2).trans e21
        have hF0 := fresh_back e1 hF
        have hB0 := fresh_back (e1.trans e2) hB
        have hlx := dpa_len hxs
        refine go_seq (eu_from (k := 1) (ev_var rfl) (ex_t e12 ha) (Nat.le_refl _) (by rw [hlx]; simp) ev_c H21 (Ex.refl H21) _ fun p H3 hp e3 h3 => ?_)
        have hdr : DpAll K H3 (xs.drop 1) ps := dpa_ex (e12.trans e3) (dpa_drop 1 hxs)
        have hlp : (xs.drop 1).length = ps.length := dpa_len hdr
        have hll := allTr_len hps
        let Pv : Nat → L2.St → Hp → Prop := fun i σ' H' => (∃ F Bf x y z fs qs, σ' = [some (.ref a), some (.ref F), some (.ref Bf), x, y, z, none] ∧ H F = none ∧ H Bf = none ∧ H' F = some (.lst fs) ∧ DpAll K H' fs (qs.map pD) ∧ GoodP (lss.take i).flatten qs ∧ H' Bf = some (.lst ((lss.take i).flatten.map V.int))) ∧ Ex H H' ∧ Ex H3 H'
        refine q_forT (tl := tC (.ref p)) (g := gName 3) (xs := xs.drop 1) (K := K) (D := { nx := fun _ H' => Q .non H', rt := Q }) ev_c (st_of h3) Pv
          (fun H4 e4 => ⟨⟨F, Bf, _, _, _, [], [], rfl, hF0, hB0, ((e21.trans e3).trans e4) _ _ hF2, .nil, ⟨Nat.zero_le _, fun q hq => nomatch hq⟩, (e3.trans e4) _ _ hB2⟩, (e12.trans e3).trans e4, e4⟩) (fun i σ' H' _ h => ex_t h.2.2 (st_of h3)) (fun i x σ' H' hx h => ?_) (fun σ' H' h => ?_)
        · obtain ⟨⟨F, Bf, x1, x2, x3, fs, qs, rfl, hF, hB, hF4, hfs, hgp, hB4⟩, e4, e34⟩ := h
          obtain ⟨dt, hdt, hdx⟩ := dpa_get hdr hx
          obtain ⟨l, hl, hTl⟩ := allTr_at hps hdt
          have hi := (List.getElem?_eq_some_iff.mp hl).1
          have tk : lss.take (i + 1) = lss.take i ++ [l] := by rw [List.take_add_one, hl]; rfl
          have tkf : (lss.take (i + 1)).flatten = (lss.take i).flatten ++ l := by
            rw [tk, List.flatten_append]
            simp
          have hsubl : ((lss.take i).flatten ++ l).Sublist lss.flatten := by
            have e : lss.flatten = (lss.take (i + 1)).flatten ++ (lss.drop (i + 1)).flatten := by rw [← List.flatten_append, List.take_append_drop]
            rw [e, tkf]
            exact List.sublist_append_left _ _
          have hnd2 := hnd.sublist hsubl
          have hlen := hsubl.length_le
          rw [List.length_append] at hlen
          rw [List.nodup_append] at hnd2
          generalize hM : (lss.take i).flatten = M at hgp hB4 tkf hnd2 hlen
          obtain ⟨hg1, hg2⟩ := hgp
          have hMM : M.length * M.length ≤ 20 * 20 := Nat.mul_le_mul (by omega) (by omega)
          have hll2 : l.length * l.length ≤ 20 * 20 := Nat.mul_le_mul (by omega) (by omega)
          have hMl : M.length * l.length ≤ 20 * 20 := Nat.mul_le_mul (by omega) (by omega)
          have hlf := dpa_len hfs
          rw [List.length_map] at hlf
          -- found = found + pairs of the part
          refine go_seqA (go_op ⟨.ref F, rfl, _, rfl, _, ⟨x, dt, l, rfl, dp_ex e34 hdx, hTl, by omega, by omega, hnd2.2.1, rfl⟩, fun v H5 e5 hv => ?_⟩)
          obtain ⟨p5, ys, q5, rfl, hp5, h5, hy5, hg51, hg52⟩ := hv
          have hly := dpa_len hy5
          rw [List.length_map] at hly
          refine ⟨F, p5, _, _, rfl, rfl, e5 _ _ hF4, h5, sz_of (by omega), fun p6 hp6 => ?_⟩
          have e6 : Ex H5 (upd H5 p6 (.lst (fs ++ ys))) := Ex.new hp6
          have e46 := (e4.trans e5).trans e6
          have hF60 : H p6 = none := fresh_back (e4.trans e5) hp6
          have hd6 : DpAll K (upd H5 p6 (.lst (fs ++ ys))) (fs ++ ys) ((qs ++ q5).map pD) := by
            rw [List.map_append]
            exact dpa_app (dpa_ex (e5.trans e6) hfs) (dpa_ex e6 hy5)
          have hq6 : ∀ q ∈ qs ++ q5, q.1 ∈ M ++ l ∧ q.2 ∈ M ++ l ∧ q.1 ≠ q.2 := fun q hq => by
            rcases List.mem_append.mp hq with hq | hq
            · have := hg2 q hq
              exact ⟨List.mem_append_left _ this.1, List.mem_append_left _ this.2.1, this.2.2⟩
            · have := hg52 q hq
              exact ⟨List.mem_append_right _ this.1, List.mem_append_right _ this.2.1, this.2.2⟩
          have hB6 : (upd H5 p6 (.lst (fs ++ ys))) Bf = some (.lst (M.map V.int)) := (e5.trans e6) _ _ hB4
          have h66 : (upd H5 p6 (.lst (fs ++ ys))) p6 = some (.lst (fs ++ ys)) := upd_same
          have e36 := (e34.trans e5).trans e6
          have hq6l : (qs ++ q5).length ≤ M.length * M.length + l.length * l.length := by rw [List.length_append]; omega
          have hl6 : (fs ++ ys).length = (qs ++ q5).length := by rw [List.length_append, List.length_append]; omega
          generalize upd H5 p6 (.lst (fs ++ ys)) = H6 at hd6 hB6 e46 e36 h66
          generalize fs ++ ys = fs6 at hd6 h66 hl6
          generalize qs ++ q5 = qs6 at hd6 hq6 hq6l hl6
          -- leaves of the part
          refine go_seqA ⟨_, rfl, go_leaves (dp_ex e36 hdx) (trD_mono (by omega) hTl) (by omega) fun p7 H7 e7 hp7 h7 => ?_⟩
          -- the end of a turn
          have fin : ∀ (F8 : Addr) (z : Option V) (fs8 : List V) (qs8 : List (Int × Int)) (m : Nat) (H8 : Hp), m ≤ M.length → Ex H7 H8 → H F8 = none → H8 F8 = some (.lst fs8) → DpAll K H8 fs8 (qs8.map pD) → qs8.length ≤ M.length * M.length + l.length * l.length + m * l.length → (∀ q ∈ qs8, q.1 ∈ M ++ l ∧ q.2 ∈ M ++ l ∧ q.1 ≠ q.2) →
              tAsg (tOp rCat (tVar 2) (tVar 4)) (gName 2) { nx := Pv (i + 1), ct := Pv (i + 1), bk := tRet (tVar 1) { nx := fun _ H' => Q .non H', rt := Q }, rt := Q } [some (.ref a), some (.ref F8), some (.ref Bf), some x, some (.ref p7), z, none] H8 := fun F8 z fs8 qs8 m H8 hm8 e8 hF8 h8 hd8 hl8 hq8 => by
            refine go_asg (go_op ⟨_, rfl, _, rfl, Bf, p7, _, _, rfl, rfl, (e7.trans e8) _ _ hB6, e8 _ _ h7, sz_of (by rw [List.length_map, List.length_map]; omega), fun p9 hp9 => ?_⟩)
            have e9 : Ex H8 (upd H8 p9 (.lst (M.map V.int ++ l.map V.int))) := Ex.new hp9
            refine ⟨⟨F8, p9, _, _, _, fs8, qs8, rfl, hF8, fresh_back ((e46.trans e7).trans e8) hp9, e9 _ _ h8, dpa_ex e9 hd8, ?_, ?_⟩, ((e46.trans e7).trans e8).trans e9, ((e36.trans e7).trans e8).trans e9⟩
            · rw [tkf]
              exact goodP_more hl8 hm8 hq8
            · rw [upd_same, tkf, List.map_append]
          have ha7 := ex_t (e46.trans e7) ha
          refine q_when (b := decide (V.str s = V.str "join")) (et_test (ev_op (ev_ixT (j := 0) (ev_var rfl) ev_c ha7 hy0) ev_c (rv_eq rfl))) (fun _ H8 e8 => ?_) (fun _ H8 e8 => fin p6 _ fs6 qs6 0 H8 (Nat.zero_le _) e8 hF60 ((e7.trans e8) _ _ h66) (dpa_ex (e7.trans e8) hd6) (by omega) hq6)
          refine s_forLn (xs := M.map V.int) (K := K) (ev_var rfl) (sq_of ((e7.trans e8) _ _ hB6)) (fun j σ' H' => (∃ F8 z fs8 qs8, σ' = [some (.ref a), some (.ref F8), some (.ref Bf), some x, some (.ref p7), z, none] ∧ H F8 = none ∧ H' F8 = some (.lst fs8) ∧ DpAll K H' fs8 (qs8.map pD) ∧ qs8.length ≤ M.length * M.length + l.length * l.length + j * l.length ∧ (∀ q ∈ qs8, q.1 ∈ M ++ l ∧ q.2 ∈ M ++ l ∧ q.1 ≠ q.2)) ∧ Ex H7 H')
            (fun H9 e9 => ⟨⟨p6, _, fs6, qs6, rfl, hF60, ((e7.trans e8).trans e9) _ _ h66, dpa_ex ((e7.trans e8).trans e9) hd6, by omega, hq6⟩, e8.trans e9⟩) (fun j σ' H' _ h => sq_of ((e7.trans h.2) _ _ hB6)) (fun j y σ' H' hy h => ?_) (fun σ' H' h => ?_)
          · obtain ⟨⟨F8, z, fs8, qs8, rfl, hF8, h8, hd8, hl8, hq8⟩, e9⟩ := h
            obtain ⟨u, hu2, rfl⟩ : ∃ u, M[j]? = some u ∧ y = .int u := by
              rw [List.getElem?_map] at hy
              cases hn : M[j]? with
              | none =>
                rw [hn] at hy
                cases hy
              | some k =>
                rw [hn] at hy
                exact ⟨k, rfl, (Option.some.inj hy).symm⟩
            have hj : j < M.length := (List.getElem?_eq_some_iff.mp hu2).1
            have huM := List.mem_of_getElem? hu2
            have hjl : j * l.length ≤ M.length * l.length := Nat.mul_le_mul_right _ (by omega)
            have L := en_L (K := K) (H := H') (σ := [some (.ref a), some (.ref F8), some (.ref Bf), some x, some (.ref p7), some (.int u), none]) (tl := tVar 4) (g := gName 6) (vs := [6]) (enc := PyData.int) (as := l) (f := fun _ => true) (r := fun v => pD (mn u v, mx u v)) (t := tYes)
              (te := tTup (tCons (tCB rMin2 (tCons (tVar 5) (tCons (tVar 6) tNil))) (tCons (tCB rMax2 (tCons (tVar 5) (tCons (tVar 6) tNil))) tNil))) (τ := fun _ x' => [some (.ref a), some (.ref F8), some (.ref Bf), some x, some (.ref p7), some (.int u), some x'])
              (evd_v (ev_var rfl) (dp_ints_l (sq_of (e9 _ _ h7)))) (by omega) (fun v => noL_pair _) (fun a x H1 R hx hR => hR) (fun a x H1 hx => rfl) (fun a x H1 _ _ hx => et_yes)
              (fun v x' H1 _ _ hx _ => by rw [dp_int hx]; exact evd_pair (ev_mn (ev_var rfl) (ev_var rfl)) (ev_mx (ev_var rfl) (ev_var rfl)))
            refine go_asg (go_op ⟨_, rfl, L H' (Ex.refl H') _ fun pl ys10 H10 hpl e10 h10 hd10 => ?_⟩)
            have ef : ((l.filter fun _ => true).map fun v => pD (mn u v, mx u v)) = (l.map fun v => (mn u v, mx u v)).map pD := by
              rw [List.filter_eq_self.mpr fun _ _ => rfl, List.map_map]
              rfl
            rw [ef] at hd10
            have hl10 := dpa_len hd10
            have hl88 := dpa_len hd8
            rw [List.length_map] at hl10 hl88
            rw [List.length_map] at hl10
            refine ⟨F8, pl, _, _, rfl, rfl, e10 _ _ h8, h10, sz_of (by omega), fun p11 hp11 => ?_⟩
            have e11 : Ex H10 (upd H10 p11 (.lst (fs8 ++ ys10))) := Ex.new hp11
            refine ⟨⟨p11, _, fs8 ++ ys10, qs8 ++ l.map fun v => (mn u v, mx u v), rfl, fresh_back (((e46.trans e7).trans e9).trans e10) hp11, upd_same, ?_, ?_, ?_⟩, (e9.trans e10).trans e11⟩
            · rw [List.map_append]
              exact dpa_app (dpa_ex (e10.trans e11) hd8) (dpa_ex e11 hd10)
            · rw [List.length_append, List.length_map, Nat.add_mul]
              omega
            · intro q hq
              rcases List.mem_append.mp hq with hq | hq
              · exact hq8 q hq
              · obtain ⟨v, hv, rfl⟩ := List.mem_map.mp hq
                have hne : u ≠ v := hnd2.2.2 u huM v hv
                have h1 : ∀ y, y = u ∨ y = v → y ∈ M ++ l := fun y hy => by
                  rcases hy with rfl | rfl
                  · exact List.mem_append_left _ huM
                  · exact List.mem_append_right _ hv
                exact ⟨h1 _ (mn_or u v), h1 _ (mx_or u v), mn_ne hne⟩
          · obtain ⟨⟨F8, z, fs8, qs8, rfl, hF8, h8, hd8, hl8, hq8⟩, e9⟩ := h
            rw [List.length_map] at hl8
            exact fin F8 z fs8 qs8 M.length H' (Nat.le_refl _) e9 hF8 h8 hd8 hl8 hq8
        · obtain ⟨⟨F, Bf, x1, x2, x3, fs, qs, rfl, hF, hB, hF4, hfs, hgp, hB4⟩, e4, e34⟩ := h
          rw [hlp, hll, List.take_length] at hgp
          refine go_ret ⟨_, rfl, ?_⟩
          exact q _ _ e4 ⟨F, fs, qs, rfl, hF, hF4, hfs, hgp⟩
end
end Tr
namespace Tr
open PySem PySem.Spec PyProof.Rows L2 Evl StX
open C8 (Cal pe_c pe_gc)
section
variable {P : Program} {w : World} {K : PySem.W.Frag} {mg : Str → Option Value} {base : Heap}
theorem sc_law_spread : FnScope ["_law_cell", "_law_mixed", "_law_total", "_law_k"] ["_law_cell"] (defScope (top 230)) := ⟨rfl, rfl, rfl, by decide +kernel, rfl, by decide +kernel, by decide +kernel⟩
theorem ok_law_spread (D : DefAt K mg "_law_spread" 230) (B : Bt mg) : Ca P w K mg base 1 "_law_spread" (sp_law_spread K) := by
  refine D.mk (k := 0) sc_law_spread (fun _ _ _ _ _ _ us hl => match us, hl with | [_], _ => rfl) (fun vs H Q E h => ?_) (fun f cdv A outer s H vs Q E hr h => ?_)
  · obtain ⟨_, ⟨i, rfl, _⟩, _⟩ := h
    rfl
  · obtain ⟨_, ⟨i, rfl, rfl⟩, q⟩ := h
    have hu := hu_of hr
    have hu65 := hu65_of hr
    have sc := sc_law_spread
    refine ⟨_, (pss_cons (ps_set (i := 1) sc.nd rfl (by first | exact Or.inl rfl | exact Or.inr rfl) (pe_op op_mod (pe_callTy call_int1 (by rfl) B.int_ (by decide +kernel) (pa_cons (pv 0) pa_nil)) pe_int))
      (pss_cons (ps_set (i := 2) sc.nd rfl (by first | exact Or.inl rfl | exact Or.inr rfl) pe_int)
      (pss_cons (ps_for PassesOwn.never rfl (pi_range1 (by rfl) B.range_ (pa_cons pe_int pa_nil)) (pg_name (i := 3) sc.nd rfl (by first | exact Or.inl rfl | exact Or.inr rfl)) (pss_cons (ps_set (i := 1) sc.nd rfl (by first | exact Or.inl rfl | exact Or.inr rfl) (pe_op op_mod (pe_callTy call_int1 (by rfl) B.int_ (by decide +kernel) (pa_cons (pe_op op_add (pe_op op_add (pe_op op_mul (pv 1) pe_int) pe_int) (pv 3)) pa_nil)) pe_int))
      (pss_one (ps_set (i := 2) sc.nd rfl (by first | exact Or.inl rfl | exact Or.inr rfl) (pe_op op_add (pe_op op_mul (pv 2) pe_int) (pv 1))))))
      (pss_one (ps_ret (pv 2)))))), ?_⟩
    refine q_asg (ev_mod (ev_int (ev_var rfl)) ev_c (by decide)) fun H1 e1 => ?_
    refine q_asg ev_c fun H2 e2 => ?_
    refine q_forR1 (n := 4) (ea_cons ev_c ea_nil) (by decide) (fun _ σ' H' => (∃ a b x, σ' = [some (.int i), some (.int a), some (.int b), x]) ∧ Ex H H') (fun H3 e3 => ⟨⟨_, _, _, rfl⟩, (e1.trans e2).trans e3⟩) (fun j σ' H' hj h => ?_) (fun σ' H' h => ?_)
    · obtain ⟨⟨a, b, x, rfl⟩, e⟩ := h
      refine q_asg (ev_mod (ev_int (ev_add (ev_add (ev_mulc (ev_var rfl) ev_c (.inr (by decide))) ev_c) (ev_var rfl))) ev_c (by decide)) fun H3 e3 => ?_
      exact s_asg (ev_add (ev_mulc (ev_var rfl) ev_c (.inr (by decide))) (ev_var rfl)) fun H4 e4 => ⟨⟨_, _, _, rfl⟩, (e.trans e3).trans e4⟩
    · obtain ⟨⟨a, b, x, rfl⟩, e⟩ := h
      exact go_ret ⟨_, rfl, q _ _ e ⟨_, rfl⟩⟩
theorem sc_law_pool : FnScope ["_law_script", "_law_salt", "_law_cell"] ["_law_script"] (defScope (top 229)) := ⟨rfl, rfl, rfl, by decide +kernel, rfl, by decide +kernel, by decide +kernel⟩
theorem ok_law_pool (D : DefAt K mg "_law_pool" 229) (B : Bt mg) : Ca P w K mg base 1 "_law_pool" (sp_law_pool K) := by
  refine D.mk (k := 0) sc_law_pool (fun _ _ _ _ _ _ us hl => match us, hl with | [_], _ => rfl) (fun vs H Q E h => ?_) (fun f cdv A outer s H vs Q E hr h => ?_)
  · obtain ⟨a, ns, rfl, _⟩ := h
    rfl
  · obtain ⟨a, ns, rfl, ha, q⟩ := h
    have hu := hu_of hr
    have hu65 := hu65_of hr
    have sc := sc_law_pool
    refine ⟨_, (pss_cons (ps_set (i := 1) sc.nd rfl (by first | exact Or.inl rfl | exact Or.inr rfl) pe_int)
      (pss_cons (ps_for PassesOwn.never rfl (piL K (pe_slice (slL K) (pv 0) po_none (po_some pe_int))) (pg_name (i := 2) sc.nd rfl (by first | exact Or.inl rfl | exact Or.inr rfl)) (pss_one (ps_set (i := 1) sc.nd rfl (by first | exact Or.inl rfl | exact Or.inr rfl) (pe_op op_mod (pe_callTy call_int1 (by rfl) B.int_ (by decide +kernel) (pa_cons (pe_op op_add (pe_op op_mul (pv 1) pe_int) (pv 2)) pa_nil)) pe_int))))
      (pss_one (ps_ret (pe_lst (pa_cons (pe_callTy (lstS K) (by rfl) B.list_ (by decide +kernel) (pa_cons (pv 0) pa_nil)) (pa_cons pe_int (pa_cons pe_int (pa_cons pe_int (pa_cons (pv 1) pa_nil)))))))))), ?_⟩
    refine q_asg ev_c fun H1 e1 => ?_
    have ha1 := ex_l e1 ha
    refine go_seq ⟨_, rfl, _, rfl, a, _, rfl, ha1, fun l hl => ?_⟩
    have e2 : Ex H1 (upd H1 l (.lst (cutV (ns.map V.int) none (some 63)))) := Ex.new hl
    have hcut : ∃ ks : List Int, cutV (ns.map V.int) none (some 63) = ks.map V.int := by
      unfold cutV
      exact ⟨_, by rw [← List.map_drop, ← List.map_take]⟩
    obtain ⟨ks, hks⟩ := hcut
    rw [hks] at e2 ⊢
    refine q_forLn (tl := tC (.ref l)) (xs := ks.map V.int) (K := K) (D := { nx := fun _ H' => Q .non H', rt := Q }) ev_c (sq_of upd_same) (fun _ σ' H' => (∃ s x, σ' = [some (.ref a), some (.int s), x]) ∧ Ex H H' ∧ H' l = some (.lst (ks.map V.int))) (fun H3 e3 => ⟨⟨_, _, rfl⟩, (e1.trans e2).trans e3, e3 _ _ upd_same⟩) (fun i σ' H' _ h => sq_of h.2.2) (fun i x σ' H' hx h => ?_) (fun σ' H' h => ?_)
    · obtain ⟨⟨s, x0, rfl⟩, e, h3⟩ := h
      obtain ⟨k, rfl⟩ : ∃ k, x = .int k := by
        rw [List.getElem?_map] at hx
        cases hn : ks[i]? with
        | none =>
          rw [hn] at hx
          cases hx
        | some k =>
          rw [hn] at hx
          exact ⟨k, (Option.some.inj hx).symm⟩
      exact s_asg (ev_mod (ev_int (ev_add (ev_mulc (ev_var rfl) ev_c (.inr (by decide))) (ev_var rfl))) ev_c (by decide)) fun H4 e4 => ⟨⟨_, _, rfl⟩, e.trans e4, e4 _ _ h3⟩
    · obtain ⟨⟨s, x0, rfl⟩, e, h3⟩ := h
      refine go_ret (el_list (ev_var rfl) (ex_l e ha) H' (Ex.refl H') _ fun c H4 hc e4 h4 => ?_)
      refine ⟨_, rfl, by show 5 ≤ sizeLine; decide, fun p hp => ?_⟩
      have e5 : Ex H4 (upd H4 p (.lst [.ref c, .int 0, .int 0, .int 0, .int s])) := Ex.new hp
      exact q ⟨p, c, ns⟩ _ ((e.trans e4).trans e5) (fresh_back (e.trans e4) hp) ⟨0, 0, 0, s, upd_same, sq_of (e5 _ _ h4), Int.le_refl 0, ne_of_none h4 hp⟩
theorem sc_law_draw : FnScope ["_law_pool_here", "_law_many", "_law_cell", "_law_mixed", "_law_value"] ["_law_pool_here", "_law_many"] (defScope (top 231)) := ⟨rfl, rfl, rfl, by decide +kernel, rfl, by decide +kernel, by decide +kernel⟩
theorem ok_law_draw (D : DefAt K mg "_law_draw" 231) (B : Bt mg) (c_law_spread : Ca P w K mg base 1 "_law_spread" (sp_law_spread K)) : Ca P w K mg base 2 "_law_draw" (sp_law_draw K) := by
  refine D.mk (k := 1) sc_law_draw (fun _ _ _ _ _ _ us hl => match us, hl with | [_, _], _ => rfl) (fun vs H Q E h => ?_) (fun f cdv A outer s H vs Q E hr h => ?_)
  · obtain ⟨p, m, rfl, _⟩ := h
    rfl
  · obtain ⟨p, m, rfl, hP, hm0, hm1, q⟩ := h
    have hu := hu_of hr
    have hu65 := hu65_of hr
    have sc := sc_law_draw
    refine ⟨_, (pss_cons (ps_if (PW.pt (pw_and (pt_cmpR op_le (pe_ix (ixL K) (pv 0) pe_int (fun _ _ => rfl)) pe_int (nomark _)) (pw_and1 (pt_cmpR op_lt (pe_ix (ixL K) (pv 0) pe_int (fun _ _ => rfl)) (pe_callB (lenS K) (by rfl) B.len_ PySem.boot_len (pa_cons (pe_ix (ixL K) (pv 0) pe_int (fun _ _ => rfl)) pa_nil)) (nomark _))))) (pss_cons (ps_set (i := 2) sc.nd rfl (by first | exact Or.inl rfl | exact Or.inr rfl) (pe_ix (ixL K) (pe_ix (ixL K) (pv 0) pe_int (fun _ _ => rfl)) (pe_ix (ixL K) (pv 0) pe_int (fun _ _ => rfl)) (fun _ _ => rfl)))
      (pss_cons (ps_asg (pe_op op_add (pe_ix (ixL K) (pv 0) pe_int (fun _ _ => rfl)) pe_int) (pg_sub (pv 0) pe_int set_list))
      (pss_cons (ps_asg (pv 2) (pg_sub (pv 0) pe_int set_list))
      (pss_one (ps_if (pt_cmpR op_lt (pv 2) pe_int (nomark _)) (pss_one (ps_asg (pe_c c_law_spread hr (by decide) (by rfl) (pa_cons (pv 2) pa_nil)) (pg_sub (pv 0) pe_int set_list))) pss_nil))))) pss_nil)
      (pss_cons (ps_asg (pe_op op_add (pe_ix (ixL K) (pv 0) pe_int (fun _ _ => rfl)) pe_int) (pg_sub (pv 0) pe_int set_list))
      (pss_cons (ps_if (pt_cmpR op_le (pe_ix (ixL K) (pv 0) pe_int (fun _ _ => rfl)) pe_int (nomark _)) (pss_cons (ps_set (i := 3) sc.nd rfl (by first | exact Or.inl rfl | exact Or.inr rfl) (pe_op op_mod (pe_callTy call_int1 (by rfl) B.int_ (by decide +kernel) (pa_cons (pe_op op_add (pe_op op_add (pe_op op_mul (pe_ix (ixL K) (pv 0) pe_int (fun _ _ => rfl)) pe_int) (pe_op op_mul (pe_ix (ixL K) (pv 0) pe_int (fun _ _ => rfl)) pe_int)) pe_int) pa_nil)) pe_int))
      (pss_cons (ps_set (i := 3) sc.nd rfl (by first | exact Or.inl rfl | exact Or.inr rfl) (pe_op op_mod (pe_callTy call_int1 (by rfl) B.int_ (by decide +kernel) (pa_cons (pe_op op_add (pe_op op_mul (pv 3) pe_int) (pe_ix (ixL K) (pv 0) pe_int (fun _ _ => rfl))) pa_nil)) pe_int))
      (pss_one (ps_ret (pe_op op_mod (pe_op op_fdivN (pv 3) pe_int) (pv 1)))))) pss_nil)
      (pss_cons (ps_set (i := 4) sc.nd rfl (by first | exact Or.inl rfl | exact Or.inr rfl) (pe_op op_mod (pe_callTy call_int1 (by rfl) B.int_ (by decide +kernel) (pa_cons (pe_ix (ixL K) (pv 0) pe_int (fun _ _ => rfl)) pa_nil)) (pv 1)))
      (pss_cons (ps_asg (pe_op op_fdivN (pe_ix (ixL K) (pv 0) pe_int (fun _ _ => rfl)) (pv 1)) (pg_sub (pv 0) pe_int set_list))
      (pss_one (ps_ret (pv 4)))))))), ?_⟩
    obtain ⟨p, c, ns⟩ := p
    obtain ⟨i, x, k, s, P⟩ := hP
    have P : PoolA K H p c ns i x k s := P
    have hcells : ∀ H', Px ⟨p, c, ns⟩ H H' → SqL K H' c (ns.map V.int) := fun H' e => px_l e P.ne P.cells
    have pk : ∀ {H' : Hp} {i x k s : Int}, Px ⟨p, c, ns⟩ H H' → H' p = some (.lst [.ref c, .int i, .int x, .int k, .int s]) → 0 ≤ i → Pool K H' ⟨p, c, ns⟩ := fun e h hi => ⟨_, _, _, _, h, hcells _ e, hi, P.ne⟩
    refine q_whenM (fun σ' H' => ∃ a i x, σ' = [some (.ref p), some (.int m), a, none, none] ∧ Px ⟨p, c, ns⟩ H H' ∧ 0 ≤ i ∧ H' p = some (.lst [.ref c, .int i, .int x, .int k, .int s])) (et_and (et_test (ev_le (ev_ixL (j := 2) (v := .int x) (ev_var rfl) ev_c (sq_of P.at_) rfl) ev_c)) fun _ => et_test (ev_lt (ev_ixL (j := 1) (v := .int i) (ev_var rfl) ev_c (sq_of P.at_) rfl) (ev_len (ev_ixL (j := 0) (v := .ref c) (ev_var rfl) ev_c (sq_of P.at_) rfl) P.cells)))
      (fun hb H1 e1 nx hnx => ?_) (fun _ H1 e1 => ⟨_, i, x, rfl, Px.of e1, P.i0, e1 _ _ P.at_⟩) (fun σ' H' h => ?_)
    · have hlt : i < ns.length := by
        have := (Bool.and_eq_true_iff.mp hb).2
        rw [List.length_map] at this
        exact of_decide_eq_true this
      have P1 := P.ex e1
      refine q_asg (v := .int (ns.getD i.toNat 0)) (ev_ixI (ev_ixL (j := 0) (v := .ref c) (ev_var rfl) ev_c (sq_of P1.at_) rfl) (ev_ixL (j := 1) (v := .int i) (ev_var rfl) ev_c (sq_of P1.at_) rfl) P1.cells P.i0 hlt) fun H2 e2 => ?_
      have P2 := P1.ex e2
      refine go_seq (s_setL (j := 1) P2.at_ (ev_add (ev_ixL (j := 1) (v := .int i) (ev_var rfl) ev_c (sq_of P2.at_) rfl) ev_c) (ev_var rfl) ev_c (by show 1 < 5; decide) fun H3 e3 => ?_)
      have X3 : Px ⟨p, c, ns⟩ H (upd H3 p (.lst [.ref c, .int (i + 1), .int x, .int k, .int s])) := Px.pool (Px.of ((e1.trans e2).trans e3))
      refine go_seq (s_setL (j := 2) (xs := [.ref c, .int (i + 1), .int x, .int k, .int s]) upd_same (ev_var rfl) (ev_var rfl) ev_c (by show 2 < 5; decide) fun H4 e4 => ?_)
      have X4 : Px ⟨p, c, ns⟩ H (upd H4 p (.lst [.ref c, .int (i + 1), .int (ns.getD i.toNat 0), .int k, .int s])) := Px.pool (X3.trans (Px.of e4))
      refine s_when (et_test (ev_lt (ev_var rfl) ev_c)) (fun _ H5 e5 => ?_) (fun _ H5 e5 => hnx _ _ ⟨_, i + 1, _, rfl, X4.trans (Px.of e5), by have := P.i0; omega, e5 _ _ upd_same⟩)
      refine ⟨_, rfl, _, ⟨_, rfl, rfl⟩, fun v H6 e6 hv => ?_⟩
      obtain ⟨j, rfl⟩ := hv
      refine ⟨_, rfl, p, [.ref c, .int (i + 1), .int (ns.getD i.toNat 0), .int k, .int s], 2, 2, rfl, rfl, (e5.trans e6) _ _ upd_same, rfl, ?_⟩
      exact hnx _ _ ⟨_, i + 1, j, rfl, Px.pool (X4.trans (Px.of (e5.trans e6))), by have := P.i0; omega, upd_same⟩
    · obtain ⟨a, i, x, rfl, X1, hi, h1⟩ := h
      refine go_seq (s_setL (j := 3) h1 (ev_add (ev_ixL (j := 3) (v := .int k) (ev_var rfl) ev_c (sq_of h1) rfl) ev_c) (ev_var rfl) ev_c (by show 3 < 5; decide) fun H2 e2 => ?_)
      have X2 : Px ⟨p, c, ns⟩ H (upd H2 p (.lst [.ref c, .int i, .int x, .int (k + 1), .int s])) := Px.pool (X1.trans (Px.of e2))
      have h2 : (upd H2 p (.lst [.ref c, .int i, .int x, .int (k + 1), .int s])) p = some (.lst [.ref c, .int i, .int x, .int (k + 1), .int s]) := upd_same
      show tSeq _ _ _ [some (.ref p), some (.int m), a, none, none] (upd H2 p (.lst [.ref c, .int i, .int x, .int (k + 1), .int s]))
      generalize upd H2 p (.lst [.ref c, .int i, .int x, .int (k + 1), .int s]) = H3 at X2 h2 ⊢
      refine q_when (et_test (ev_le (ev_ixL (j := 2) (v := .int x) (ev_var rfl) ev_c (sq_of h2) rfl) ev_c)) (fun _ H4 e4 => ?_) (fun _ H4 e4 => ?_)
      · have h4 := e4 _ _ h2
        refine q_asg (ev_mod (ev_int (ev_add (ev_add (ev_mulc (ev_ixL (j := 4) (v := .int s) (ev_var rfl) ev_c (sq_of h4) rfl) ev_c (.inr (by decide))) (ev_mulc (ev_ixL (j := 3) (v := .int (k + 1)) (ev_var rfl) ev_c (sq_of h4) rfl) ev_c (.inr (by decide)))) ev_c)) ev_c (by decide)) fun H5 e5 => ?_
        have h5 := e5 _ _ h4
        refine q_asg (ev_mod (ev_int (ev_add (ev_mulc (ev_var rfl) ev_c (.inr (by decide))) (ev_ixL (j := 3) (v := .int (k + 1)) (ev_var rfl) ev_c (sq_of h5) rfl))) ev_c (by decide)) fun H6 e6 => ?_
        refine s_ret (ev_mod (ev_fdiv (ev_var rfl) ev_c (by unfold CDivN; decide)) (ev_var rfl) hm0) fun H7 e7 => ?_
        have X7 := X2.trans (Px.of (((e4.trans e5).trans e6).trans e7))
        exact q _ _ X7 (pk X7 (((e4.trans e5).trans e6).trans e7 _ _ h2) hi) (Int.emod_nonneg _ (by omega)) (Int.emod_lt_of_pos _ hm0)
      · have h4 := e4 _ _ h2
        refine q_asg (ev_mod (ev_int (ev_ixL (j := 2) (v := .int x) (ev_var rfl) ev_c (sq_of h4) rfl)) (ev_var rfl) hm0) fun H5 e5 => ?_
        have h5 := e5 _ _ h4
        refine go_seq (s_setL (j := 2) h5 (ev_fdiv (ev_ixL (j := 2) (v := .int x) (ev_var rfl) ev_c (sq_of h5) rfl) (ev_var rfl) ⟨by omega, by omega⟩) (ev_var rfl) ev_c (by show 2 < 5; decide) fun H6 e6 => ?_)
        have X6 : Px ⟨p, c, ns⟩ H (upd H6 p (.lst [.ref c, .int i, .int (x.fdiv m), .int (k + 1), .int s])) := Px.pool (X2.trans (Px.of ((e4.trans e5).trans e6)))
        have fin := q _ _ X6 (pk X6 upd_same hi) (Int.emod_nonneg _ (by omega)) (Int.emod_lt_of_pos x hm0)
        exact (⟨_, rfl, fin⟩ : ∃ v, ([some (.ref p), some (.int m), a, none, some (.int (x % m))] : L2.St)[4]? = some (some v) ∧ Q v _)
end
end Tr
namespace Tr
open PySem PySem.Spec PyProof.Rows L2 Evl StX
open C8 (Cal pe_c pe_gc)
section
variable {P : Program} {w : World} {K : PySem.W.Frag} {mg : Str → Option Value} {base : Heap}
theorem sc_law_shuffled : FnScope ["_law_pool_here", "_law_items", "_law_rest", "_law_found", "_law_k"] ["_law_pool_here", "_law_items"] (defScope (top 238)) := ⟨rfl, rfl, rfl, by decide +kernel, rfl, by decide +kernel, by decide +kernel⟩
theorem ok_law_shuffled (D : DefAt K mg "_law_shuffled" 238) (B : Bt mg) (c_law_draw : Ca P w K mg base 2 "_law_draw" (sp_law_draw K)) : Ca P w K mg base 3 "_law_shuffled" (sp_law_shuffled K) := by
  refine D.mk (k := 2) sc_law_shuffled (fun _ _ _ _ _ _ us hl => match us, hl with | [_, _], _ => rfl) (fun vs H Q E h => ?_) (fun f cdv A outer s H vs Q E hr h => ?_)
  · obtain ⟨p, l, ks, rfl, _⟩ := h
    rfl
  · obtain ⟨p, l, ks, rfl, hP, hl, hz, q⟩ := h
    have hu := hu_of hr
    have hu65 := hu65_of hr
    have sc := sc_law_shuffled
    refine ⟨_, (pss_cons (ps_set (i := 2) sc.nd rfl (by first | exact Or.inl rfl | exact Or.inr rfl) (pe_callTy (lstS K) (by rfl) B.list_ (by decide +kernel) (pa_cons (pv 1) pa_nil)))
      (pss_cons (ps_set (i := 3) sc.nd rfl (by first | exact Or.inl rfl | exact Or.inr rfl) (pe_lst pa_nil))
      (pss_cons (ps_for PassesOwn.never rfl (pi_range1 (by rfl) B.range_ (pa_cons (pe_callB (lenS K) (by rfl) B.len_ PySem.boot_len (pa_cons (pv 2) pa_nil)) pa_nil)) (pg_name (i := 4) sc.nd rfl (by first | exact Or.inl rfl | exact Or.inr rfl)) (pss_one (ps_expr (bmS K PySem.F.plainAttrs_list PySem.F.slot_list_append PySem.F.type_list_append mt_append (pv 3) (pa_cons (bmS K PySem.F.plainAttrs_list PySem.F.slot_list_pop PySem.F.type_list_pop mt_popAt (pv 2) (pa_cons (pe_c c_law_draw hr (by decide) (by rfl) (pa_cons (pv 0) (pa_cons (pe_callB (lenS K) (by rfl) B.len_ PySem.boot_len (pa_cons (pv 2) pa_nil)) pa_nil))) pa_nil)) pa_nil)))))
      (pss_one (ps_ret (pv 3)))))), ?_⟩
    refine q_asgL (el_list (ev_var rfl) hl) fun R H1 hR e1 hR1 => ?_
    refine q_asgL (xs := []) (el_lst ea_nil (by decide)) fun F H2 hF e2 hF2 => ?_
    have hF0 := fresh_back e1 hF
    have e12 := e1.trans e2
    have RF : R ≠ F := ne_of_none hR1 hF
    have hRp := pool_ne hP hR
    have hFp := pool_ne hP hF0
    have hlk : ((ks.map V.int).length : Int) = (ks.length : Int) := by rw [List.length_map]
    refine q_forR1 (n := (ks.length : Int)) (ea_cons (ev_is (ev_len (ev_var rfl) (sq_of (e2 _ _ hR1))) (congrArg V.int hlk)) ea_nil) (by omega) (fun i σ' H' => (∃ x, σ' = [some (.ref p.a), some (.ref l), some (.ref R), some (.ref F), x]) ∧ Dr K H p H' ∧ ∃ rs fs : List Int, H' R = some (.lst (rs.map V.int)) ∧ H' F = some (.lst (fs.map V.int)) ∧ (fs ++ rs).Perm ks ∧ fs.length = i)
      (fun H3 e3 => ⟨⟨_, rfl⟩, (Dr.of hP e12).ex e3, ks, [], e3 _ _ (e2 _ _ hR1), e3 _ _ hF2, List.Perm.refl _, rfl⟩) (fun i σ' H' hi h => ?_) (fun σ' H' h => ?_)
    · obtain ⟨⟨x, rfl⟩, d, rs, fs, h3, h4, hpm, hfl⟩ := h
      have hlen := hpm.length_eq
      rw [List.length_append] at hlen
      have hlr : ((rs.map V.int).length : Int) = (rs.length : Int) := by rw [List.length_map]
      refine ⟨_, rfl, .inl ⟨rfl, _, sq_of h4⟩, _, rfl, .inl ⟨rfl, _, sq_of h3⟩, go_cons (go_drawP rfl (ev_is (ev_len (ev_var rfl) (sq_of h3)) (congrArg V.int hlr)) d.pool (by omega) (by omega) fun k H4 d4 hk0 hk1 => ?_)⟩
      have h3' := d4.get hRp h3
      have h4' := d4.get hFp h4
      have dd := d.trans d4
      have hkn : k.toNat < rs.length := by omega
      refine ⟨R, rs.map V.int, k, k.toNat, .int rs[k.toNat], rfl, rfl, h3', by omega, by omega, by rw [List.length_map]; exact seqIx hk0 hk1, int_at hkn, ?_⟩
      have h5 : (upd H4 R (.lst ((rs.map V.int).eraseIdx k.toNat))) F = some (.lst (fs.map V.int)) := by
        rw [upd_ne (Ne.symm RF)]
        exact h4'
      have he : (rs.map V.int).eraseIdx k.toNat = (rs.eraseIdx k.toNat).map V.int := eraseIdx_mapI _ _ _
      refine ⟨F, fs.map V.int, _, rfl, rfl, h5, sz_lt (by rw [List.length_map]; omega), ?_⟩
      refine ⟨⟨_, rfl⟩, (dd.mut hP hR).mut hP hF0, rs.eraseIdx k.toNat, fs ++ [rs[k.toNat]], ?_, ?_, ?_, by rw [List.length_append]; simp [hfl]⟩
      · rw [upd_ne RF, upd_same, he]
      · rw [upd_same, List.map_append]
        rfl
      · refine List.Perm.trans ?_ hpm
        rw [List.append_assoc]
        refine List.Perm.append_left fs ?_
        exact perm_eraseI rs k.toNat hkn
    · obtain ⟨⟨x, rfl⟩, d, rs, fs, h3, h4, hpm, hfl⟩ := h
      have hlen := hpm.length_eq
      rw [List.length_append] at hlen
      have hr : rs = [] := List.length_eq_zero_iff.mp (by omega)
      subst hr
      rw [List.append_nil] at hpm
      exact go_ret ⟨_, rfl, q F fs _ d hF0 h4 hpm⟩
theorem sc_law_interval_rows : FnScope ["_law_pool_here", "_law_n", "_law_rows", "_law_k", "_law_start"] ["_law_pool_here", "_law_n"] (defScope (top 242)) := ⟨rfl, rfl, rfl, by decide +kernel, rfl, by decide +kernel, by decide +kernel⟩
theorem ok_law_interval_rows (D : DefAt K mg "_law_interval_rows" 242) (B : Bt mg) (c_law_draw : Ca P w K mg base 2 "_law_draw" (sp_law_draw K)) : Ca P w K mg base 3 "_law_interval_rows" (sp_law_interval_rows K) := by
  refine D.mk (k := 2) sc_law_interval_rows (fun _ _ _ _ _ _ us hl => match us, hl with | [_, _], _ => rfl) (fun vs H Q E h => ?_) (fun f cdv A outer s H vs Q E hr h => ?_)
  · obtain ⟨p, n, rfl, _⟩ := h
    rfl
  · obtain ⟨p, n, rfl, hP, h1, h7, q⟩ := h
    have hu := hu_of hr
    have hu65 := hu65_of hr
    have sc := sc_law_interval_rows
    refine ⟨_, (pss_cons (ps_set (i := 2) sc.nd rfl (by first | exact Or.inl rfl | exact Or.inr rfl) (pe_lst pa_nil))
      (pss_cons (ps_for PassesOwn.never rfl (pi_range1 (by rfl) B.range_ (pa_cons (pv 1) pa_nil)) (pg_name (i := 3) sc.nd rfl (by first | exact Or.inl rfl | exact Or.inr rfl)) (pss_cons (ps_set (i := 4) sc.nd rfl (by first | exact Or.inl rfl | exact Or.inr rfl) (pe_op op_sub (pe_c c_law_draw hr (by decide) (by rfl) (pa_cons (pv 0) (pa_cons pe_int pa_nil))) pe_int))
      (pss_one (ps_expr (bmS K PySem.F.plainAttrs_list PySem.F.slot_list_append PySem.F.type_list_append mt_append (pv 2) (pa_cons (pe_tup (pa_cons (pv 4) (pa_cons (pe_op op_add (pv 4) (pe_c c_law_draw hr (by decide) (by rfl) (pa_cons (pv 0) (pa_cons (pe_ix (ixL K) (pe_lst (pa_cons pe_int (pa_cons pe_int (pa_cons pe_int pa_nil)))) (pe_c c_law_draw hr (by decide) (by rfl) (pa_cons (pv 0) (pa_cons pe_int pa_nil))) (fun _ _ => rfl)) pa_nil)))) pa_nil))) pa_nil))))))
      (pss_one (ps_ret (pv 2))))), ?_⟩
    refine q_asgL (xs := []) (el_lst ea_nil (by decide)) fun R H1 hR e1 hR1 => ?_
    have hRp := pool_ne hP hR
    refine q_forR1 (n := n) (ea_cons (ev_var rfl) ea_nil) (by omega) (fun i σ' H' => (∃ x y, σ' = [some (.ref p.a), some (.int n), some (.ref R), x, y]) ∧ Dr K H p H' ∧ ∃ xs, ∃ ps : List (Int × Int), H' R = some (.lst xs) ∧ DpAll K H' xs (ps.map pD) ∧ ps.length = i)
      (fun H3 e3 => ⟨⟨_, _, rfl⟩, (Dr.of hP e1).ex e3, [], [], e3 _ _ hR1, .nil, rfl⟩) (fun i σ' H' hi h => ?_) (fun σ' H' h => ?_)
    · obtain ⟨⟨x, y, rfl⟩, d, xs, ps, h3, hd, hlp⟩ := h
      refine go_seqA (go_op (go_drawP (p := p) rfl ev_c d.pool (by decide) (by decide) fun a H4 d4 ha0 ha1 => ⟨a, 4, rfl, rfl, ?_⟩))
      have h4 := d4.get hRp h3
      refine ⟨_, rfl, .inl ⟨rfl, _, sq_of h4⟩, go_cons (go_tup (go_cons (go_var rfl (go_cons (go_op (go_var rfl (go_call (go_cons (go_var rfl (go_cons (go_op (go_lst ?_))))))))))))⟩
      refine go_cons (go_c (go_cons (go_c (go_cons (go_c ⟨by show 3 ≤ sizeLine; decide, fun l hl => ?_⟩)))))
      have e5 : Ex H4 (upd H4 l (.lst [.int 1, .int 3, .int 6])) := Ex.new hl
      have hlp2 := pool_ne d4.pool hl
      refine go_drawP (p := p) rfl ev_c (d4.pool.ex e5) (by decide) (by decide) fun b H6 d6 hb0 hb1 => ?_
      have hl6 : H6 l = some (.lst [.int 1, .int 3, .int 6]) := d6.get hlp2 upd_same
      obtain ⟨m, hm, hm0, hm1⟩ : ∃ m : Int, atI [V.int 1, V.int 3, V.int 6] b = some (.int m) ∧ 0 < m ∧ m ≤ 6 := by
        have : b = 0 ∨ b = 1 ∨ b = 2 := by omega
        rcases this with rfl | rfl | rfl
        · exact ⟨1, rfl, by decide, by decide⟩
        · exact ⟨3, rfl, by decide, by decide⟩
        · exact ⟨6, rfl, by decide, by decide⟩
      refine ix_l (sq_of hl6) hm (go_nil (go_draw (p := p) d6.pool hm0 (by omega) fun c H7 p7 q7 hc0 hc1 => ?_))
      have d7 : Dr K H6 p H7 := ⟨p7, q7⟩
      have dd := ((d.trans d4).ex e5).trans (d6.trans d7)
      refine ⟨_, _, rfl, rfl, by show 2 ≤ sizeLine; decide, fun t ht => ?_⟩
      have e8 : Ex H7 (upd H7 t (.tup [.int (a - 4), .int (a - 4 + c)])) := Ex.new ht
      have d8 := dd.ex e8
      have h8 := e8 _ _ (d7.get hRp (d6.get hRp (e5 _ _ h4)))
      have hlx := dpa_len hd
      rw [List.length_map] at hlx
      refine ⟨R, xs, _, rfl, rfl, h8, sz_lt (by omega), ?_⟩
      have tx1 : Tx H' (upd H7 t (.tup [.int (a - 4), .int (a - 4 + c)])) := (((d4.ex e5).trans (d6.trans d7)).ex e8).tx d.pool
      have tx2 : Tx (upd H7 t (.tup [.int (a - 4), .int (a - 4 + c)])) (upd (upd H7 t (.tup [.int (a - 4), .int (a - 4 + c)])) R (.lst (xs ++ [.ref t]))) := Tx.upd h8 rfl
      refine ⟨⟨_, _, rfl⟩, d8.mut hP hR, xs ++ [.ref t], ps ++ [(a - 4, a - 4 + c)], upd_same, ?_, by rw [List.length_append]; simp [hlp]⟩
      rw [List.map_append]
      exact dpa_app (dpa_tx (tx1.trans tx2) (noLs_pairs _) hd) (.cons (mk_pair (st_of (tx2 _ _ upd_same rfl))) .nil)
    · obtain ⟨⟨x, y, rfl⟩, d, xs, ps, h3, hd, hlp⟩ := h
      exact go_ret ⟨_, rfl, q R xs ps _ d hR h3 hd (by omega)⟩
theorem sc_law_random_graph : FnScope ["_law_pool_here", "_law_most", "_law_n", "_law_dense", "_law_pair"] ["_law_pool_here", "_law_most"] (defScope (top 241)) := ⟨rfl, rfl, rfl, by decide +kernel, rfl, by decide +kernel, by decide +kernel⟩
theorem ok_law_random_graph (D : DefAt K mg "_law_random_graph" 241) (B : Bt mg) (c_law_draw : Ca P w K mg base 2 "_law_draw" (sp_law_draw K)) (c_law_pairs : Ca P w K mg base 1 "_law_pairs" (sp_law_pairs K)) : Ca P w K mg base 3 "_law_random_graph" (sp_law_random_graph K) := by
  refine D.mk (k := 2) sc_law_random_graph (fun _ _ _ _ _ _ us hl => match us, hl with | [_, _], _ => rfl) (fun vs H Q E h => ?_) (fun f cdv A outer s H vs Q E hr h => ?_)
  · obtain ⟨p, m, rfl, _⟩ := h
    rfl
  · obtain ⟨p, m, rfl, hP, h1, h7, q⟩ := h
    have hu := hu_of hr
    have hu65 := hu65_of hr
    have sc := sc_law_random_graph
    refine ⟨_, (pss_cons (ps_set (i := 2) sc.nd rfl (by first | exact Or.inl rfl | exact Or.inr rfl) (pe_ix (ixL K) (pe_lst (pa_cons (pv 1) (pa_cons (pe_op op_add pe_int (pe_c c_law_draw hr (by decide) (by rfl) (pa_cons (pv 0) (pa_cons (pv 1) pa_nil)))) pa_nil))) (pe_callTy call_int1 (by rfl) B.int_ (by decide +kernel) (pa_cons (pe_cmpR op_eq (pe_c c_law_draw hr (by decide) (by rfl) (pa_cons (pv 0) (pa_cons pe_int pa_nil))) pe_int (nomark _)) pa_nil)) (fun _ _ => rfl)))
      (pss_cons (ps_set (i := 3) sc.nd rfl (by first | exact Or.inl rfl | exact Or.inr rfl) (pe_op op_add pe_int (pe_c c_law_draw hr (by decide) (by rfl) (pa_cons (pv 0) (pa_cons pe_int pa_nil)))))
      (pss_one (ps_ret (pe_tup (pa_cons (pv 2) (pa_cons (pe_callTy (tupS K) (by rfl) B.tuple_ (by decide +kernel) (pa_cons (pe_lc (own := [("_law_pair", 4)]) (by rfl) sc.nd (piL K (pe_c c_law_pairs hr (by decide) (by rfl) (pa_cons (pv 2) pa_nil))) (blkOk_by (own := [("_law_pair", 4)]) (N := ["_law_pool_here", "_law_most", "_law_n", "_law_dense", "_law_pair"]) (sc := defScope (top 241)) (by decide +kernel)) (fun _ _ _ _ _ => (pg_name (i := 4) sc.nd rfl (by first | exact Or.inl rfl | exact Or.inr rfl))) (fun _ _ _ _ _ => (pts_one (pt_cmpR op_lt (pe_c c_law_draw hr (by decide) (by rfl) (pa_cons (pv 0) (pa_cons pe_int pa_nil))) (pv 3) (nomark _)))) (fun _ _ _ _ _ => (pv 4))) pa_nil)) pa_nil))))))), ?_⟩
    refine go_seqA (go_nn (p := p) rfl rfl hP h1 h7 fun n H1 d1 hn0 hn1 => ?_)
    refine go_seqA (go_op (go_c (go_drawP (p := p) rfl ev_c d1.pool (by decide) (by decide) fun e H2 d2 he0 he1 => ⟨1, e, rfl, rfl, ?_⟩)))
    have hr := rows2_len (n := n) 7 (by omega)
    refine go_ret (go_tup (go_cons (go_var rfl (go_cons (go_cb (go_cons (lc_src (go_pairs (n := n) (ev_var rfl) (by omega) (by omega) fun l xs H3 e3 hl h3 hd => ?_))))))))
    have d3 : Dr K H p H3 := (d1.trans d2).ex e3
    refine en_DL (K := K) (p := p) (enc := pD) (as := rows2 n) (r := pD) (τ := fun _ x => [some (.ref p.a), some (.int m), some (.int n), some (.int (1 + e)), some x]) d3.pool (sq_of h3) (pool_ne d2.pool hl) hd noL_pair noL_pair (by omega) (fun a x H1 R hx hR => hR) (fun a x H1 hx => rfl)
      (fun a x H4 _ d4 hx Q q => go_test (go_op (go_drawP (p := p) rfl ev_c d4.pool (by decide) (by decide) fun b H5 d5 hb0 hb1 => ⟨_, rfl, b, 1 + e, rfl, rfl, _, rfl, q _ H5 d5⟩))) (fun a x H4 _ _ hx => evd_v (ev_var rfl) hx) fun D acc sub H4 d4 hD h4 hsub hsl => ?_
    refine go_graph (n := n) (es := sub) (sq_of h4) hsub fun t H5 e5 G5 => ?_
    exact q _ n sub _ ((d3.trans d4).ex e5) G5 (ok_sub hn0 (by omega) hsl)
end
end Tr
namespace Tr
open PySem PySem.Spec PyProof.Rows L2 Evl StX
open C8 (Cal pe_c pe_gc)
section
variable {P : Program} {w : World} {K : PySem.W.Frag} {mg : Str → Option Value} {base : Heap}
theorem ok_of_pairs {n : Int} {es ps : List (Int × Int)} (h1 : 1 ≤ n) (h7 : n ≤ 7) (hl : es.length ≤ ps.length) (hz : ps.length ≤ 100) (hm : ∀ e ∈ es, ∃ p ∈ ps, e = mmP p) (hg : ∀ q ∈ ps, (0 ≤ q.1 ∧ q.1 < n) ∧ (0 ≤ q.2 ∧ q.2 < n) ∧ q.1 ≠ q.2) : Ok n es := by
  refine ⟨h1, h7, by omega, fun e he => ?_⟩
  obtain ⟨p, hp, rfl⟩ := hm e he
  have := hg p hp
  exact mm_good this.1 this.2.1 this.2.2
theorem sc_law_ringed : FnScope ["_law_pool_here", "_law_n", "_law_m", "_law_pairs_here", "_law_v", "_law_k", "_law_u"] ["_law_pool_here", "_law_n"] (defScope (top 259)) := ⟨rfl, rfl, rfl, by decide +kernel, rfl, by decide +kernel, by decide +kernel⟩
theorem ok_law_ringed (D : DefAt K mg "_law_ringed" 259) (B : Bt mg) (c_law_draw : Ca P w K mg base 2 "_law_draw" (sp_law_draw K)) (c_law_of : Ca P w K mg base 2 "_law_of" (sp_law_of K)) : Ca P w K mg base 3 "_law_ringed" (sp_law_ringed K) := by
  refine D.mk (k := 2) sc_law_ringed (fun _ _ _ _ _ _ us hl => match us, hl with | [_, _], _ => rfl) (fun vs H Q E h => ?_) (fun f cdv A outer s H vs Q E hr h => ?_)
  · obtain ⟨p, n, rfl, _⟩ := h
    rfl
  · obtain ⟨p, n, rfl, hP, h1, h7, q⟩ := h
    have hu := hu_of hr
    have hu65 := hu65_of hr
    have sc := sc_law_ringed
    refine ⟨_, (pss_cons (ps_set (i := 2) sc.nd rfl (by first | exact Or.inl rfl | exact Or.inr rfl) (pe_op op_sub (pv 1) (pe_c c_law_draw hr (by decide) (by rfl) (pa_cons (pv 0) (pa_cons (pe_callB (call_max2 rfl) (by rfl) B.max_ (by decide +kernel) (pa_cons pe_int (pa_cons (pe_op op_sub (pv 1) pe_int) pa_nil))) pa_nil)))))
      (pss_cons (ps_setLc (i := 3) (own := [("_law_k", 5)]) (by rfl) sc.nd rfl rfl (sw_true rfl rfl rfl (by decide +kernel)) (pi_range1 (by rfl) B.range_ (pa_cons (pv 2) pa_nil)) (blkOk_by (own := [("_law_k", 5)]) (N := ["_law_pool_here", "_law_n", "_law_m", "_law_pairs_here", "_law_v", "_law_k", "_law_u"]) (sc := defScope (top 259)) (by decide +kernel)) (fun _ _ _ _ _ => (pg_name (i := 5) sc.nd rfl (by first | exact Or.inl rfl | exact Or.inr rfl))) (fun _ _ _ _ _ => (pts_one (pt_cmpR op_gt (pv 2) pe_int (nomark _)))) (fun _ _ _ _ _ => (pe_tup (pa_cons (pv 5) (pa_cons (pe_op op_mod (pe_op op_add (pv 5) pe_int) (pv 2)) pa_nil)))))
      (pss_cons (ps_for PassesOwn.never rfl (pi_range2 (by rfl) B.range_ (pa_cons (pv 2) (pa_cons (pv 1) pa_nil))) (pg_name (i := 4) sc.nd rfl (by first | exact Or.inl rfl | exact Or.inr rfl)) (pss_one (ps_set (i := 3) sc.nd rfl (by first | exact Or.inl rfl | exact Or.inr rfl) (pe_op op_cat (pv 3) (pe_lc (own := [("_law_u", 6)]) (by rfl) sc.nd (pi_range1 (by rfl) B.range_ (pa_cons (pv 4) pa_nil)) (blkOk_by (own := [("_law_u", 6)]) (N := ["_law_pool_here", "_law_n", "_law_m", "_law_pairs_here", "_law_v", "_law_k", "_law_u"]) (sc := defScope (top 259)) (by decide +kernel)) (fun _ _ _ _ _ => (pg_name (i := 6) sc.nd rfl (by first | exact Or.inl rfl | exact Or.inr rfl))) (fun _ _ _ _ _ => (pts_one (pt_cmpR op_eq (pe_c c_law_draw hr (by decide) (by rfl) (pa_cons (pv 0) (pa_cons pe_int pa_nil))) pe_int (nomark _)))) (fun _ _ _ _ _ => (pe_tup (pa_cons (pv 6) (pa_cons (pv 4) pa_nil)))))))))
      (pss_one (ps_ret (pe_c c_law_of hr (by decide) (by rfl) (pa_cons (pv 1) (pa_cons (pv 3) pa_nil)))))))), ?_⟩
    refine go_seqA (go_op (go_var rfl (go_drawP (p := p) rfl (ev_max2 ev_c (ev_sub (ev_var rfl) ev_c)) hP (by split <;> omega) (by split <;> omega) fun d H1 d1 hd0 hd1 => ⟨n, d, rfl, rfl, ?_⟩)))
    have hm : 1 ≤ n - d ∧ n - d ≤ n := by
      split at hd1 <;> omega
    clear hd0 hd1
    show tSeq _ _ _ [some (.ref p.a), some (.int n), some (.int (n - d)), none, none, none, none] H1
    generalize n - d = m at hm ⊢
    obtain ⟨hm1, hmn⟩ := hm
    have L := en_R1 (K := K) (H := H1) (σ := [some (.ref p.a), some (.int n), some (.int m), none, none, none, none]) (ta := tCons (tVar 2) tNil) (g := gName 5) (vs := [5]) (n := m) (t := tTest (tOp (rI0 fun i j => .bl (decide (j < i))) (tVar 2) (tC (.int 2))))
      (te := tTup (tCons (tVar 5) (tCons (tOp (rI (fun _ j => 0 < j) fun i j => .int (i % j)) (tOp (rI0 fun i j => .int (i + j)) (tVar 5) (tC (.int 1))) (tVar 2)) tNil))) (f := fun _ => decide (2 < m)) (r := fun k => pD (k, (k + 1) % m)) (τ := fun k => [some (.ref p.a), some (.int n), some (.int m), none, none, some (.int k), none])
      (ea_cons (ev_var rfl) ea_nil) (by omega) (fun _ => noL_pair _) (fun a H1 R hR => hR) (fun a => rfl) (by omega) (fun a H1 _ _ e => et_test (ev_gt (ev_var rfl) ev_c)) (fun a H1 _ _ _ _ => evd_pair (ev_var rfl) (ev_mod (ev_add (ev_var rfl) ev_c) (ev_var rfl) (by omega)))
    refine go_seqA (L H1 (Ex.refl H1) _ fun P xs H2 hPf e2 h2 hd2 => ?_)
    have epm : (((rgI 0 m.toNat).filter fun _ => decide (2 < m)).map fun k => pD (k, (k + 1) % m)) = (((rgI 0 m.toNat).filter fun _ => decide (2 < m)).map fun k => (k, (k + 1) % m)).map pD := by
      rw [List.map_map]
      rfl
    rw [epm] at hd2
    have hg0 : ∀ q ∈ ((rgI 0 m.toNat).filter fun _ => decide (2 < m)).map fun k => (k, (k + 1) % m), (0 ≤ q.1 ∧ q.1 < n) ∧ (0 ≤ q.2 ∧ q.2 < n) ∧ q.1 ≠ q.2 := fun q hq => by
      obtain ⟨k, hk, rfl⟩ := List.mem_map.mp hq
      rw [List.mem_filter, mem_rgI] at hk
      have h2m := of_decide_eq_true hk.2
      have e0 := Int.emod_nonneg (k + 1) (show m ≠ 0 by omega)
      have e1 := Int.emod_lt_of_pos (k + 1) (show 0 < m by omega)
      refine ⟨by show 0 ≤ k ∧ k < n; omega, by show 0 ≤ (k + 1) % m ∧ (k + 1) % m < n; omega, ?_⟩
      show k ≠ (k + 1) % m
      intro z
      by_cases hlt : k + 1 < m
      · rw [Int.emod_eq_of_lt (by omega) hlt] at z
        omega
      · have : k + 1 = m := by omega
        rw [this, Int.emod_self] at z
        omega
    have hl0 : (((rgI 0 m.toNat).filter fun _ => decide (2 < m)).map fun k => (k, (k + 1) % m)).length ≤ 7 := by
      rw [List.length_map]
      refine Nat.le_trans (List.length_filter_le _ _) ?_
      rw [rgI_len]
      omega
    generalize ((rgI 0 m.toNat).filter fun _ => decide (2 < m)).map (fun k => (k, (k + 1) % m)) = ps0 at hd2 hg0 hl0
    have hPf0 := d1.fresh hPf
    refine q_forR2 (lo := m) (n := n) (ea_cons (ev_var rfl) (ea_cons (ev_var rfl) ea_nil)) ⟨by omega, by omega, by omega, by omega⟩
      (fun i σ' H' => (∃ P x xs, ∃ ps : List (Int × Int), σ' = [some (.ref p.a), some (.int n), some (.int m), some (.ref P), x, none, none] ∧ H P = none ∧ H' P = some (.lst xs) ∧ DpAll K H' xs (ps.map pD) ∧ ps.length ≤ 7 + i * 7 ∧ (∀ q ∈ ps, (0 ≤ q.1 ∧ q.1 < n) ∧ (0 ≤ q.2 ∧ q.2 < n) ∧ q.1 ≠ q.2)) ∧ Dr K H p H')
      (fun H3 e3 => ⟨⟨P, _, xs, ps0, rfl, hPf0, e3 _ _ h2, dpa_ex e3 hd2, by omega, hg0⟩, (d1.ex e2).ex e3⟩) (fun i σ' H' hi h => ?_) (fun σ' H' h => ?_)
    · obtain ⟨⟨P, x, xs, ps, rfl, hP0, h3, hd3, hl3, hg3⟩, d3⟩ := h
      have hPp := pool_ne hP hP0
      refine go_asg (go_op (go_var rfl ?_))
      refine en_DR (K := K) (p := p) (n := m + (i : Int)) (r := fun u => pD (u, m + (i : Int))) (τ := fun u => [some (.ref p.a), some (.int n), some (.int m), some (.ref P), some (.int (m + (i : Int))), none, some (.int u)]) d3.pool (ea_cons (ev_var rfl) ea_nil) (by omega) (fun _ => noL_pair _) (fun a H1 R hR => hR) (fun a => rfl)
        (fun a H4 _ _ d4 Q q => go_test (go_op (go_drawP (p := p) rfl ev_c d4.pool (by decide) (by decide) fun b H5 d5 hb0 hb1 => ⟨rfl, _, rfl, q _ H5 d5⟩))) (fun a H4 _ _ _ => evd_pair (ev_var rfl) (ev_var rfl)) fun D acc sub H4 d4 hD h4 hsub hsl => ?_
      have h34 := d4.get hPp h3
      have hlx := dpa_len hd3
      have hla := dpa_len hsub
      have hls := hsl.length_le
      rw [List.length_map] at hlx hla
      rw [rgI_len] at hls
      refine ⟨P, D, xs, acc, rfl, rfl, h34, h4, sz_of (by omega), fun P2 hP2 => ?_⟩
      have e5 : Ex H4 (upd H4 P2 (.lst (xs ++ acc))) := Ex.new hP2
      have d5 := (d3.trans d4).ex e5
      refine ⟨⟨P2, _, xs ++ acc, ps ++ sub.map fun u => (u, m + (i : Int)), rfl, (d3.trans d4).fresh hP2, upd_same, ?_, ?_, ?_⟩, d5⟩
      · rw [List.map_append, List.map_map]
        exact dpa_app (dpa_ex e5 (dpa_tx (d4.tx d3.pool) (noLs_pairs _) hd3)) (dpa_ex e5 hsub)
      · rw [List.length_append, List.length_map]
        omega
      · intro q hq
        rcases List.mem_append.mp hq with hq | hq
        · exact hg3 q hq
        · obtain ⟨u, hu, rfl⟩ := List.mem_map.mp hq
          have := mem_rgI.mp (hsl.subset hu)
          refine ⟨by show 0 ≤ u ∧ u < n; omega, by show 0 ≤ m + (i : Int) ∧ m + (i : Int) < n; omega, by show u ≠ m + (i : Int); omega⟩
    · obtain ⟨⟨P, x, xs, ps, rfl, hP0, h3, hd3, hl3, hg3⟩, d3⟩ := h
      refine go_ret (go_call (go_cons (go_var rfl (go_cons (go_var rfl (go_nil ⟨_, ⟨n, P, ps, rfl, ⟨xs, sq_of h3, hd3⟩, by omega, rfl⟩, fun v H4 e4 hv => ?_⟩))))))
      obtain ⟨es, G, hle, hme⟩ := hv
      exact q _ es _ (d3.ex e4) G (ok_of_pairs h1 h7 hle (by omega) hme hg3)
theorem sc_law_clique_graph : FnScope ["_law_pool_here", "_law_n", "_law_cliques", "_law_pairs_here", "_law_v", "_law_base", "_law_kept", "_law_u"] ["_law_pool_here", "_law_n"] (defScope (top 246)) := ⟨rfl, rfl, rfl, by decide +kernel, rfl, by decide +kernel, by decide +kernel⟩
theorem ok_law_clique_graph (D : DefAt K mg "_law_clique_graph" 246) (B : Bt mg) (c_law_draw : Ca P w K mg base 2 "_law_draw" (sp_law_draw K)) : Ca P w K mg base 3 "_law_clique_graph" (sp_law_clique_graph K) := by
  refine D.mk (k := 2) sc_law_clique_graph (fun _ _ _ _ _ _ us hl => match us, hl with | [_, _], _ => rfl) (fun vs H Q E h => ?_) (fun f cdv A outer s H vs Q E hr h => ?_)
  · obtain ⟨p, n, rfl, _⟩ := h
    rfl
  · obtain ⟨p, n, rfl, hP, h1, h7, q⟩ := h
    have hu := hu_of hr
    have hu65 := hu65_of hr
    have sc := sc_law_clique_graph
    refine ⟨_, (pss_cons (ps_set (i := 2) sc.nd rfl (by first | exact Or.inl rfl | exact Or.inr rfl) (pe_lst (pa_cons (pe_lst pa_nil) pa_nil)))
      (pss_cons (ps_set (i := 3) sc.nd rfl (by first | exact Or.inl rfl | exact Or.inr rfl) (pe_lst pa_nil))
      (pss_cons (ps_for PassesOwn.never rfl (pi_range1 (by rfl) B.range_ (pa_cons (pv 1) pa_nil)) (pg_name (i := 4) sc.nd rfl (by first | exact Or.inl rfl | exact Or.inr rfl)) (pss_cons (ps_set (i := 5) sc.nd rfl (by first | exact Or.inl rfl | exact Or.inr rfl) (pe_ix (ixL K) (pv 2) (pe_c c_law_draw hr (by decide) (by rfl) (pa_cons (pv 0) (pa_cons (pe_callB (lenS K) (by rfl) B.len_ PySem.boot_len (pa_cons (pv 2) pa_nil)) pa_nil))) (fun _ _ => rfl)))
      (pss_cons (ps_setLc (i := 6) (own := [("_law_u", 7)]) (by rfl) sc.nd rfl rfl (sw_true rfl rfl rfl (by decide +kernel)) (piL K (pv 5)) (blkOk_by (own := [("_law_u", 7)]) (N := ["_law_pool_here", "_law_n", "_law_cliques", "_law_pairs_here", "_law_v", "_law_base", "_law_kept", "_law_u"]) (sc := defScope (top 246)) (by decide +kernel)) (fun _ _ _ _ _ => (pg_name (i := 7) sc.nd rfl (by first | exact Or.inl rfl | exact Or.inr rfl))) (fun _ _ _ _ _ => (pts_one (pt_cmpR op_gt (pe_c c_law_draw hr (by decide) (by rfl) (pa_cons (pv 0) (pa_cons pe_int pa_nil))) pe_int (nomark _)))) (fun _ _ _ _ _ => (pv 7)))
      (pss_cons (ps_set (i := 3) sc.nd rfl (by first | exact Or.inl rfl | exact Or.inr rfl) (pe_op op_cat (pv 3) (pe_lc (own := [("_law_u", 7)]) (by rfl) sc.nd (piL K (pv 6)) (blkOk_by (own := [("_law_u", 7)]) (N := ["_law_pool_here", "_law_n", "_law_cliques", "_law_pairs_here", "_law_v", "_law_base", "_law_kept", "_law_u"]) (sc := defScope (top 246)) (by decide +kernel)) (fun _ _ _ _ _ => (pg_name (i := 7) sc.nd rfl (by first | exact Or.inl rfl | exact Or.inr rfl))) (fun _ _ _ _ _ => pts_nil) (fun _ _ _ _ _ => (pe_tup (pa_cons (pv 7) (pa_cons (pv 4) pa_nil)))))))
      (pss_one (ps_expr (bmS K PySem.F.plainAttrs_list PySem.F.slot_list_append PySem.F.type_list_append mt_append (pv 2) (pa_cons (pe_op op_cat (pv 6) (pe_lst (pa_cons (pv 4) pa_nil))) pa_nil))))))))
      (pss_one (ps_ret (pe_tup (pa_cons (pv 1) (pa_cons (pe_callTy (tupS K) (by rfl) B.tuple_ (by decide +kernel) (pa_cons (pe_callB (srtP K) (by rfl) B.sorted_ (by decide +kernel) (pa_cons (pv 3) pa_nil)) pa_nil)) pa_nil)))))))), ?_⟩
    refine go_seqA (go_lst (go_cons (go_lst (go_nil ⟨by decide, fun c hc => go_nil ⟨by show 1 ≤ sizeLine; decide, fun C hC => ?_⟩⟩))))
    have e1 : Ex H (upd H c (.lst [])) := Ex.new hc
    have e2 : Ex (upd H c (.lst [])) (upd (upd H c (.lst [])) C (.lst [.ref c])) := Ex.new hC
    have hC0 := fresh_back e1 hC
    have cC : c ≠ C := ne_of_none upd_same hC
    have hC2 : (upd (upd H c (.lst [])) C (.lst [.ref c])) C = some (.lst [.ref c]) := upd_same
    have hc2 : (upd (upd H c (.lst [])) C (.lst [.ref c])) c = some (.lst []) := e2 _ _ upd_same
    have e12 := e1.trans e2
    generalize upd (upd H c (.lst [])) C (.lst [.ref c]) = H2 at e12 hC2 hc2
    refine q_asgL (xs := []) (el_lst ea_nil (by decide)) fun P H3 hPf e3 hP3 => ?_
    have hPf0 := fresh_back e12 hPf
    have hCp := pool_ne hP hC0
    refine q_forR1 (n := n) (ea_cons (ev_var rfl) ea_nil) (by omega)
      (fun i σ' H' => (∃ P x5 x6 x7 xs ys, ∃ ps : List (Int × Int), σ' = [some (.ref p.a), some (.int n), some (.ref C), some (.ref P), x5, x6, x7, none] ∧ H' C = some (.lst xs) ∧ xs.length = i + 1 ∧ (∀ x ∈ xs, ∃ a, ∃ ks : List Int, x = .ref a ∧ a ≠ C ∧ a ≠ p.a ∧ H' a = some (.lst (ks.map V.int)) ∧ ks.length ≤ i ∧ ∀ k ∈ ks, 0 ≤ k ∧ k < (i : Int)) ∧
        H P = none ∧ P ≠ C ∧ H' P = some (.lst ys) ∧ PrAll H' ys ps ∧ ps.length ≤ i * 7 ∧ ∀ q ∈ ps, 0 ≤ q.1 ∧ q.1 < q.2 ∧ q.2 < n) ∧ Dr K H p H')
      (fun H4 e4 => ⟨⟨P, _, _, _, [.ref c], [], [], rfl, e4 _ _ (e3 _ _ hC2), rfl, fun x hx => ⟨c, [], by simpa using hx, cC, pool_ne hP hc, e4 _ _ (e3 _ _ hc2), Nat.le_refl _, fun k hk => nomatch hk⟩, hPf0, (ne_of_none hC2 hPf).symm, e4 _ _ hP3, trivial, Nat.zero_le _, fun q hq => nomatch hq⟩, ((Dr.of hP e12).ex e3).ex e4⟩) (fun i σ' H' hi h => ?_) (fun σ' H' h => ?_)
    · obtain ⟨⟨P, x5, x6, x7, xs, ys, ps, rfl, hC4, hxl, hxs, hP0, hPC, hP4, hpr, hpl, hpg⟩, d⟩ := h
      have hPp := pool_ne hP hP0
      -- base
      refine go_seqA (go_op (go_var rfl (go_drawP (p := p) rfl (ev_is (ev_len (ev_var rfl) (sq_of hC4)) (by rw [hxl])) d.pool (by omega) (by omega) fun k H5 d5 hk0 hk1 => ?_)))
      have hkx : k.toNat < xs.length := by omega
      obtain ⟨a, ks, hxa, haC, hap, ha4, hkl, hkr⟩ := hxs (xs[k.toNat]) (List.getElem_mem _)
      refine ix_l (sq_of (d5.get hCp hC4)) (v := .ref a) (at_of (j := k.toNat) (by omega) (by rw [List.getElem?_eq_getElem hkx, hxa])) ?_
      have ha5 := d5.get hap ha4
      -- kept
      refine go_seqA (lc_src (go_var rfl ?_))
      refine en_DL (K := K) (p := p) (enc := PyData.int) (as := ks) (r := PyData.int) (τ := fun _ x => [some (.ref p.a), some (.int n), some (.ref C), some (.ref P), some (.int (i : Int)), some (.ref a), x7, some x]) d5.pool (sq_of ha5) hap (dpa_ints ks) (fun _ => rfl) (fun _ => rfl) (by omega) (fun a x H1 R hx hR => hR) (fun a x H1 hx => rfl)
        (fun u x H6 _ d6 hx Q q => go_test (go_op (go_drawP (p := p) rfl ev_c d6.pool (by decide) (by decide) fun b H7 d7 hb0 hb1 => ⟨b, 0, rfl, rfl, _, rfl, q _ H7 d7⟩))) (fun u x H6 _ _ hx => evd_v (ev_var rfl) hx) fun D acc sub H6 d6 hD h6 hsub hsl => ?_
      have eacc := dpa_ints_inv hsub
      subst eacc
      have hsl2 := hsl.length_le
      have dd := (d.trans d5).trans d6
      have hD0 := (d.trans d5).fresh hD
      have hDp := pool_ne hP hD0
      -- pairs
      refine go_seqA (go_op (go_var rfl ?_))
      have hC6 := (d5.trans d6).get hCp hC4
      have hP6 := (d5.trans d6).get hPp hP4
      refine en_Pr (K := K) (σ := [some (.ref p.a), some (.int n), some (.ref C), some (.ref P), some (.int (i : Int)), some (.ref a), some (.ref D), none]) (tl := tVar 6) (vs := [7]) (g := gName 7) (r := fun u : Int => (u, (i : Int))) (enc := PyData.int) (as := sub) (τ := fun _ x => [some (.ref p.a), some (.int n), some (.ref C), some (.ref P), some (.int (i : Int)), some (.ref a), some (.ref D), some x])
        (evd_v (ev_var rfl) (dp_ints_l (sq_of h6))) (by omega) (fun a x H1 R hx hR => hR) (fun a x H1 hx => rfl) (fun u x H1 _ _ hx => by rw [dp_int hx]; exact eu_tup (ea_cons (ev_var rfl) (ea_cons (ev_var rfl) ea_nil)) (by show 2 ≤ 100000; decide)) (Ex.refl H6) fun l xs2 H7 hl e7 h7' hpr2 => ?_
      have hprl := pr_len hpr
      have hprl2 := pr_len hpr2
      rw [List.length_map] at hprl2
      refine ⟨P, l, ys, xs2, rfl, rfl, e7 _ _ hP6, h7', sz_of (by omega), fun P2 hP2 => ?_⟩
      have e8 : Ex H7 (upd H7 P2 (.lst (ys ++ xs2))) := Ex.new hP2
      have e78 := e7.trans e8
      have d8 := dd.ex e78
      have hP28 : (upd H7 P2 (.lst (ys ++ xs2))) P2 = some (.lst (ys ++ xs2)) := upd_same
      have hP20 := (dd.ex e7).fresh hP2
      have pr8 : PrAll (upd H7 P2 (.lst (ys ++ xs2))) (ys ++ xs2) (ps ++ sub.map fun u => (u, (i : Int))) := pr_app (pr_ex e78 (pr_tx ((d5.trans d6).tx d.pool) hpr)) (pr_ex e8 hpr2)
      have C8 := e78 _ _ hC6
      have P2C : P2 ≠ C := fun z => by
        rw [z, e7 _ _ hC6] at hP2
        cases hP2
      generalize upd H7 P2 (.lst (ys ++ xs2)) = H8 at e78 e8 d8 hP28 pr8 C8
      -- cliques.append(kept + [v])
      refine ⟨_, rfl, .inl ⟨rfl, _, sq_of C8⟩, go_cons (go_op (go_var rfl (go_lst (go_cons (go_var rfl (go_nil ⟨by show 1 ≤ sizeLine; decide, fun w hw => ?_⟩))))))⟩
      have e9 : Ex H8 (upd H8 w (.lst [.int (i : Int)])) := Ex.new hw
      refine ⟨D, w, sub.map V.int, [.int (i : Int)], rfl, rfl, (e78.trans e9) _ _ h6, upd_same, sz_of (by rw [List.length_map]; simp; omega), fun z hz => ?_⟩
      have e10 : Ex (upd H8 w (.lst [.int (i : Int)])) (upd (upd H8 w (.lst [.int (i : Int)])) z (.lst (sub.map V.int ++ [.int (i : Int)]))) := Ex.new hz
      have e810 := e9.trans e10
      have d10 := d8.ex e810
      have hz0 := (d8.ex e9).fresh hz
      have zC : z ≠ C := fun y => by
        rw [y, e9 _ _ C8] at hz
        cases hz
      have C10 := e810 _ _ C8
      have z10 : (upd (upd H8 w (.lst [.int (i : Int)])) z (.lst (sub.map V.int ++ [.int (i : Int)]))) z = some (.lst (sub.map V.int ++ [.int (i : Int)])) := upd_same
      have zp := pool_ne hP hz0
      generalize upd (upd H8 w (.lst [.int (i : Int)])) z (.lst (sub.map V.int ++ [.int (i : Int)])) = H10 at e810 d10 C10 z10
      refine go_nil ⟨C, xs, _, rfl, rfl, C10, sz_lt (by omega), ?_⟩
      have tx : Tx H10 (upd H10 C (.lst (xs ++ [.ref z]))) := Tx.upd C10 rfl
      refine ⟨⟨P2, _, _, _, xs ++ [.ref z], ys ++ xs2, ps ++ sub.map fun u => (u, (i : Int)), rfl, upd_same, by rw [List.length_append, hxl]; rfl, fun x hx => ?_, hP20, P2C, by rw [upd_ne P2C]; exact e810 _ _ hP28, pr_tx tx (pr_ex e810 pr8), ?_, ?_⟩, d10.mut hP hC0⟩
      · rcases List.mem_append.mp hx with hx | hx
        · obtain ⟨b, js, rfl, hbC, hbp, hb, hjl, hjr⟩ := hxs x hx
          refine ⟨b, js, rfl, hbC, hbp, ?_, by omega, fun k hk => by have := hjr k hk; omega⟩
          rw [upd_ne hbC]
          exact e810 _ _ (e78 _ _ ((d5.trans d6).get hbp hb))
        · refine ⟨z, sub ++ [(i : Int)], by simpa using hx, zC, zp, ?_, by rw [List.length_append]; simp; omega, fun k hk => ?_⟩
          · rw [upd_ne zC, z10, List.map_append]
            rfl
          · rcases List.mem_append.mp hk with hk | hk
            · have := hkr k (hsl.subset hk)
              omega
            · have : k = (i : Int) := by simpa using hk
              omega
      · rw [List.length_append, List.length_map]
        omega
      · intro q hq
        rcases List.mem_append.mp hq with hq | hq
        · exact hpg q hq
        · obtain ⟨u, hu, rfl⟩ := List.mem_map.mp hq
          have := hkr u (hsl.subset hu)
          show 0 ≤ u ∧ u < (i : Int) ∧ (i : Int) < n
          omega
    · obtain ⟨⟨P, x5, x6, x7, xs, ys, ps, rfl, hC4, hxl, hxs, hP0, hPC, hP4, hpr, hpl, hpg⟩, d⟩ := h
      obtain ⟨k1, k2⟩ := pr_k hpr
      refine go_ret (go_tup (go_cons (go_var rfl (go_cons (go_cb (go_cons (go_cb (go_cons (go_var rfl (go_nil ⟨P, ys, kOf H', rfl, sq_of hP4, k1, fun zs l hsr hst hl => ?_⟩))))))))))
      have hpm := hst.perm
      have e5 : Ex H' (upd H' l (.lst zs)) := Ex.new hl
      have hzs : PrAll H' zs (zs.map (kOf H')) := pr_of fun x hx => k1 x (hpm.mem_iff.mp hx)
      refine go_nil (go_graph (n := n) (es := zs.map (kOf H')) (sq_of upd_same) (pr_dp (pr_ex e5 hzs)) fun t H6 e6 G6 => ?_)
      refine q _ _ _ ((d.ex e5).ex e6) G6 ⟨h1, h7, ?_, fun e he => ?_⟩
      · have := pr_len hpr
        rw [List.length_map, hpm.length_eq]
        omega
      · obtain ⟨x, hx, rfl⟩ := List.mem_map.mp he
        refine hpg _ ?_
        rw [← k2]
        exact List.mem_map.mpr ⟨x, hpm.mem_iff.mp hx, rfl⟩
end
end Tr
namespace Tr
open PySem PySem.Spec PyProof.Rows L2 Evl StX
open C8 (Cal pe_c pe_gc)
section
variable {P : Program} {w : World} {K : PySem.W.Frag} {mg : Str → Option Value} {base : Heap}
def RowsOk (H0 : Hp) (A : Addr) (n : Int) (H' : Hp) (xs : List V) : Prop := ∀ x ∈ xs, ∃ a, ∃ bs : List Bool, x = .ref a ∧ H0 a = none ∧ a ≠ A ∧ H' a = some (.lst (bs.map V.bl)) ∧ (bs.length : Int) = n
def fB (H' : Hp) (xs : List V) (p : Int × Int) : Bool := match xs[p.1.toNat]? with
  | some (.ref a) => match H' a with
    | some (.lst ys) => match ys[p.2.toNat]? with
      | some (.bl b) => b
      | _ => false
    | _ => false
  | _ => false
theorem ev_cell {K : PySem.W.Frag} {H0 H' H2 : Hp} {A : Addr} {n u v : Int} {xs : List V} {σ : L2.St} {ta tu tv : TE} (hA : H' A = some (.lst xs)) (hx : (xs.length : Int) = n) (R : RowsOk H0 A n H' xs) (e : Ex H' H2) (ha : Ev ta σ H2 (.ref A)) (hu : Ev tu σ H2 (.int u)) (hv : Ev tv σ H2 (.int v))
    (u0 : 0 ≤ u) (u1 : u < n) (v0 : 0 ≤ v) (v1 : v < n) : Ev (tOp (rIxL K) (tOp (rIxL K) ta tu) tv) σ H2 (.bl (fB H' xs (u, v))) := by
  have hul : u.toNat < xs.length := by omega
  obtain ⟨a, bs, hxa, _, _, hb, hbl⟩ := R xs[u.toNat] (List.getElem_mem hul)
  have hvl : v.toNat < bs.length := by omega
  have h1 : xs[u.toNat]? = some (.ref a) := by rw [List.getElem?_eq_getElem hul, hxa]
  have h2 : (bs.map V.bl)[v.toNat]? = some (.bl bs[v.toNat]) := by
    rw [List.getElem?_map, List.getElem?_eq_getElem hvl]
    rfl
  have ef : fB H' xs (u, v) = bs[v.toNat] := by
    unfold fB
    simp only [h1, hb, h2]
  rw [ef]
  exact ev_op (ev_op ha hu (rv_ixL (sq_of (e _ _ hA)) (at_of (j := u.toNat) (by omega) h1))) hv (rv_ixL (sq_of (e _ _ hb)) (at_of (j := v.toNat) (by omega) h2))
theorem RowsOk.dr {K : PySem.W.Frag} {H0 H' H2 : Hp} {p : Pl} {A : Addr} {n : Int} {xs : List V} (hP : Pool K H0 p) (R : RowsOk H0 A n H' xs) (d : Dr K H' p H2) : RowsOk H0 A n H2 xs := fun x hx => by
  obtain ⟨a, bs, h1, h2, h3, h4, h5⟩ := R x hx
  exact ⟨a, bs, h1, h2, h3, d.get (pool_ne hP h2) h4, h5⟩
theorem RowsOk.ex {H0 H' H2 : Hp} {A : Addr} {n : Int} {xs : List V} (R : RowsOk H0 A n H' xs) (e : Ex H' H2) : RowsOk H0 A n H2 xs := fun x hx => by
  obtain ⟨a, bs, h1, h2, h3, h4, h5⟩ := R x hx
  exact ⟨a, bs, h1, h2, h3, e _ _ h4, h5⟩
theorem sc_law_ordered_graph : FnScope ["_law_pool_here", "_law_n", "_law_above", "_law_w", "_law_u", "_law_v", "_law_pair"] ["_law_pool_here", "_law_n"] (defScope (top 245)) := ⟨rfl, rfl, rfl, by decide +kernel, rfl, by decide +kernel, by decide +kernel⟩
theorem ok_law_ordered_graph (D : DefAt K mg "_law_ordered_graph" 245) (B : Bt mg) (c_law_draw : Ca P w K mg base 2 "_law_draw" (sp_law_draw K)) (c_law_pairs : Ca P w K mg base 1 "_law_pairs" (sp_law_pairs K)) : Ca P w K mg base 3 "_law_ordered_graph" (sp_law_ordered_graph K) := by
  refine D.mk (k := 2) sc_law_ordered_graph (fun _ _ _ _ _ _ us hl => match us, hl with | [_, _], _ => rfl) (fun vs H Q E h => ?_) (fun f cdv A outer s H vs Q E hr h => ?_)
  · obtain ⟨p, n, rfl, _⟩ := h
    rfl
  · obtain ⟨p, n, rfl, hP, h1, h7, q⟩ := h
    have hu := hu_of hr
    have hu65 := hu65_of hr
    have sc := sc_law_ordered_graph
    refine ⟨_, (pss_cons (ps_set (i := 2) sc.nd rfl (by first | exact Or.inl rfl | exact Or.inr rfl) (pe_lc (own := [("_law_u", 4)]) (by rfl) sc.nd (pi_range1 (by rfl) B.range_ (pa_cons (pv 1) pa_nil)) (blkOk_by (own := [("_law_u", 4)]) (N := ["_law_pool_here", "_law_n", "_law_above", "_law_w", "_law_u", "_law_v", "_law_pair"]) (sc := defScope (top 245)) (by decide +kernel)) (fun _ _ _ _ _ => (pg_name (i := 4) sc.nd rfl (by first | exact Or.inl rfl | exact Or.inr rfl))) (fun _ _ _ _ _ => pts_nil) (fun _ _ _ _ _ => (pe_lc (own := [("_law_v", 5)]) (by rfl) sc.nd (pi_range1 (by rfl) B.range_ (pa_cons (pv 1) pa_nil)) (blkOk_by (by first | rfl | kernel_rfl)) (fun _ _ _ _ _ => (pg_name (i := 5) sc.nd rfl (by first | exact Or.inl rfl | exact Or.inr rfl))) (fun _ _ _ _ _ => pts_nil) (fun _ _ _ _ _ => (pe_and (pe_cmpR op_lt (pv 4) (pv 5) (nomark _)) (pe_one (pe_cmpR op_eq (pe_c c_law_draw hr (by decide) (by rfl) (pa_cons (pv 0) (pa_cons pe_int pa_nil))) pe_int (nomark _)))))))))
      (pss_cons (ps_for PassesOwn.never rfl (pi_range1 (by rfl) B.range_ (pa_cons (pv 1) pa_nil)) (pg_name (i := 3) sc.nd rfl (by first | exact Or.inl rfl | exact Or.inr rfl)) (pss_one (ps_for PassesOwn.never rfl (pi_range1 (by rfl) B.range_ (pa_cons (pv 1) pa_nil)) (pg_name (i := 4) sc.nd rfl (by first | exact Or.inl rfl | exact Or.inr rfl)) (pss_one (ps_for PassesOwn.never rfl (pi_range1 (by rfl) B.range_ (pa_cons (pv 1) pa_nil)) (pg_name (i := 5) sc.nd rfl (by first | exact Or.inl rfl | exact Or.inr rfl)) (pss_one (ps_asg (pe_or (pe_ix (ixL K) (pe_ix (ixL K) (pv 2) (pv 4) (fun _ _ => rfl)) (pv 5) (fun _ _ => rfl)) (pe_one (pe_and (pe_ix (ixL K) (pe_ix (ixL K) (pv 2) (pv 4) (fun _ _ => rfl)) (pv 3) (fun _ _ => rfl)) (pe_one (pe_ix (ixL K) (pe_ix (ixL K) (pv 2) (pv 3) (fun _ _ => rfl)) (pv 5) (fun _ _ => rfl)))))) (pg_sub (pe_ix (ixL K) (pv 2) (pv 4) (fun _ _ => rfl)) (pv 5) set_list))))))))
      (pss_one (ps_ret (pe_tup (pa_cons (pv 1) (pa_cons (pe_callTy (tupS K) (by rfl) B.tuple_ (by decide +kernel) (pa_cons (pe_lc (own := [("_law_pair", 6)]) (by rfl) sc.nd (piL K (pe_c c_law_pairs hr (by decide) (by rfl) (pa_cons (pv 1) pa_nil))) (blkOk_by (own := [("_law_pair", 6)]) (N := ["_law_pool_here", "_law_n", "_law_above", "_law_w", "_law_u", "_law_v", "_law_pair"]) (sc := defScope (top 245)) (by decide +kernel)) (fun _ _ _ _ _ => (pg_name (i := 6) sc.nd rfl (by first | exact Or.inl rfl | exact Or.inr rfl))) (fun _ _ _ _ _ => (pts_one (pt_val (pe_ix (ixL K) (pe_ix (ixL K) (pv 2) (pe_ix (ixT K) (pv 6) pe_int (fun _ _ => rfl)) (fun _ _ => rfl)) (pe_ix (ixT K) (pv 6) pe_int (fun _ _ => rfl)) (fun _ _ => rfl))))) (fun _ _ _ _ _ => (pv 6))) pa_nil)) pa_nil))))))), ?_⟩
    have hs : EvA (tCons (tVar 1) tNil) [some (.ref p.a), some (.int n), none, none, none, none, none] H [.int n] := ea_cons (ev_var rfl) ea_nil
    refine go_seqA (lc_R1 hs (by omega) fun H1 A e1 hA => ?_)
    have hA0 := fresh_back e1 hA
    have hAp := pool_ne hP hA0
    have hnn : (n.toNat : Int) = n := by omega
    refine ⟨fun i H' => Dr K H p H' ∧ ∃ xs, H' A = some (.lst xs) ∧ xs.length = i ∧ RowsOk H A n H' xs, ⟨Dr.of hP (e1.trans (Ex.new hA)), [], upd_same, rfl, fun x hx => nomatch hx⟩, fun i H' hi c => ?_, fun H' c => ?_⟩
    · obtain ⟨d, xs, hA', hxl, R⟩ := c
      refine ⟨rfl, yes_go (iteT ?_)⟩
      have hs2 : EvA (tCons (tVar 1) tNil) [some (.ref p.a), some (.int n), none, none, some (.int (0 + (i : Int))), none, none] H' [.int n] := ea_cons (ev_var rfl) ea_nil
      refine lc_R1 hs2 (by omega) fun H2 D e2 hD => ?_
      have hA2 := e2 _ _ hA'
      have R2 := R.ex e2
      have DA : D ≠ A := fun z => by
        rw [z, hA2] at hD
        cases hD
      have hD0 := (d.ex e2).fresh hD
      have hDp := pool_ne hP hD0
      have rowD : ∀ H3 : Hp, RowsOk H A n H3 xs → ∀ o, (∀ x ∈ xs, ∀ a, x = .ref a → a ≠ D) → RowsOk H A n (upd H3 D o) xs := fun H3 R3 o hne x hx => by
        obtain ⟨a, bs, g1, g2, g3, g4, g5⟩ := R3 x hx
        exact ⟨a, bs, g1, g2, g3, by rw [upd_ne (hne x hx a g1)]; exact g4, g5⟩
      have neD : ∀ x ∈ xs, ∀ a, x = .ref a → a ≠ D := fun x hx a hxa z => by
        obtain ⟨b, bs, g1, g2, g3, g4, g5⟩ := R2 x hx
        rw [g1] at hxa
        cases hxa
        rw [z, hD] at g4
        cases g4
      refine ⟨fun j H' => Dr K H p H' ∧ H' A = some (.lst xs) ∧ RowsOk H A n H' xs ∧ ∃ bs : List Bool, H' D = some (.lst (bs.map V.bl)) ∧ bs.length = j, ⟨(d.ex e2).ex (Ex.new hD), (Ex.new hD) _ _ hA2, rowD _ R2 _ neD, [], upd_same, rfl⟩, fun j H3 hj c => ?_, fun H3 c => ?_⟩
      · obtain ⟨d3, hA3, R3, bs, hD3, hbl⟩ := c
        refine ⟨rfl, yes_go (iteT ?_)⟩
        have fin : ∀ b H4, Dr K H3 p H4 → ∃ acc, H4 D = some (.lst acc) ∧ acc.length < sizeLine ∧ Dr K H p (upd H4 D (.lst (acc ++ [.bl b]))) ∧ (upd H4 D (.lst (acc ++ [.bl b]))) A = some (.lst xs) ∧ RowsOk H A n (upd H4 D (.lst (acc ++ [.bl b]))) xs ∧ ∃ bs : List Bool, (upd H4 D (.lst (acc ++ [.bl b]))) D = some (.lst (bs.map V.bl)) ∧ bs.length = j + 1 := fun b H4 d4 =>
          ⟨bs.map V.bl, d4.get hDp hD3, sz_lt (by rw [List.length_map]; omega), (d3.trans d4).mut hP hD0, by rw [upd_ne DA.symm]; exact d4.get hAp hA3, rowD _ (R3.dr hP d4) _ neD, bs ++ [b], by rw [upd_same, List.map_append]; rfl, by rw [List.length_append, hbl]; rfl⟩
        refine go_op (go_var rfl (go_var rfl ⟨0 + (i : Int), 0 + (j : Int), rfl, rfl, decide (0 + (i : Int) < 0 + (j : Int)), rfl, ?_⟩))
        cases decide (0 + (i : Int) < 0 + (j : Int)) with
        | true => exact go_op (go_drawP (p := p) rfl ev_c d3.pool (by decide) (by decide) fun b H4 d4 hb0 hb1 => ⟨rfl, fin _ H4 d4⟩)
        | false => exact fin false H3 (Dr.refl d3.pool)
      · obtain ⟨d3, hA3, R3, bs, hD3, hbl⟩ := c
        refine ⟨xs, hA3, sz_lt (by omega), d3.mut hP hA0, xs ++ [.ref D], upd_same, by rw [List.length_append, hxl]; rfl, fun x hx => ?_⟩
        rcases List.mem_append.mp hx with hx | hx
        · obtain ⟨a, bs2, g1, g2, g3, g4, g5⟩ := R3 x hx
          exact ⟨a, bs2, g1, g2, g3, by rw [upd_ne g3]; exact g4, g5⟩
        · exact ⟨D, bs, by simpa using hx, hD0, DA, by rw [upd_ne DA]; exact hD3, by omega⟩
    · obtain ⟨d, xs, hA', hxl, R⟩ := c
      have hxn : (xs.length : Int) = n := by omega
      refine q_forR1 (n := n) (ea_cons (ev_var rfl) ea_nil) (by omega) (fun _ σ' H' => (∃ x y z, σ' = [some (.ref p.a), some (.int n), some (.ref A), x, y, z, none]) ∧ Dr K H p H' ∧ H' A = some (.lst xs) ∧ RowsOk H A n H' xs) (fun H2 e2 => ⟨⟨_, _, _, rfl⟩, d.ex e2, e2 _ _ hA', R.ex e2⟩) (fun w σ' H' hw h => ?_) (fun σ' H' h => ?_)
      · obtain ⟨⟨x, y, z, rfl⟩, d2, hA2, R2⟩ := h
        refine s_forR1 (n := n) (ea_cons (ev_var rfl) ea_nil) (by omega) (fun _ σ' H' => (∃ y z, σ' = [some (.ref p.a), some (.int n), some (.ref A), some (.int (w : Int)), y, z, none]) ∧ Dr K H p H' ∧ H' A = some (.lst xs) ∧ RowsOk H A n H' xs) (fun H3 e3 => ⟨⟨_, _, rfl⟩, d2.ex e3, e3 _ _ hA2, R2.ex e3⟩) (fun u σ' H' hu h => ?_) (fun σ' H' h => ?_)
        · obtain ⟨⟨y, z, rfl⟩, d3, hA3, R3⟩ := h
          refine s_forR1 (n := n) (ea_cons (ev_var rfl) ea_nil) (by omega) (fun _ σ' H' => (∃ z, σ' = [some (.ref p.a), some (.int n), some (.ref A), some (.int (w : Int)), some (.int (u : Int)), z, none]) ∧ Dr K H p H' ∧ H' A = some (.lst xs) ∧ RowsOk H A n H' xs) (fun H4 e4 => ⟨⟨_, rfl⟩, d3.ex e4, e4 _ _ hA3, R3.ex e4⟩) (fun v σ' H' hv h => ?_) (fun σ' H' h => ?_)
          · obtain ⟨⟨z, rfl⟩, d4, hA4, R4⟩ := h
            have hul : u < xs.length := by omega
            obtain ⟨a, bs, hxa, ha0, haA, hb, hbl⟩ := R4 xs[u] (List.getElem_mem hul)
            have hxa2 : xs[u]? = some (.ref a) := by rw [List.getElem?_eq_getElem hul, hxa]
            have E1 := ev_cell (K := K) (u := (u : Int)) (v := (v : Int)) (σ := [some (.ref p.a), some (.int n), some (.ref A), some (.int (w : Int)), some (.int (u : Int)), some (.int (v : Int)), none]) (ta := tVar 2) (tu := tVar 4) (tv := tVar 5) hA4 hxn R4 (Ex.refl H') (ev_var rfl) (ev_var rfl) (ev_var rfl) (by omega) hu (by omega) hv
            have E2 := ev_cell (K := K) (u := (u : Int)) (v := (w : Int)) (σ := [some (.ref p.a), some (.int n), some (.ref A), some (.int (w : Int)), some (.int (u : Int)), some (.int (v : Int)), none]) (ta := tVar 2) (tu := tVar 4) (tv := tVar 3) hA4 hxn R4 (Ex.refl H') (ev_var rfl) (ev_var rfl) (ev_var rfl) (by omega) hu (by omega) hw
            have E3 := ev_cell (K := K) (u := (w : Int)) (v := (v : Int)) (σ := [some (.ref p.a), some (.int n), some (.ref A), some (.int (w : Int)), some (.int (u : Int)), some (.int (v : Int)), none]) (ta := tVar 2) (tu := tVar 3) (tv := tVar 5) hA4 hxn R4 (Ex.refl H') (ev_var rfl) (ev_var rfl) (ev_var rfl) (by omega) hw (by omega) hv
            refine s_setL (j := v) hb (ev_orV E1 fun _ => ev_andV E2 fun _ => E3) (ev_ixL (j := u) (ev_var rfl) (ev_var rfl) (sq_of hA4) hxa2) (ev_var rfl) (by rw [List.length_map]; omega) fun H5 e5 => ?_
            generalize (fB H' xs ((u : Int), (v : Int)) || (fB H' xs ((u : Int), (w : Int)) && fB H' xs ((w : Int), (v : Int)))) = b
            refine ⟨⟨_, rfl⟩, (d4.ex e5).mut hP ha0, by rw [upd_ne haA.symm]; exact e5 _ _ hA4, fun x hx => ?_⟩
            obtain ⟨c, cs, g1, g2, g3, g4, g5⟩ := R4 x hx
            by_cases hc : c = a
            · subst hc
              exact ⟨c, bs.set v b, g1, g2, g3, by rw [upd_same, List.map_set], by rw [List.length_set]; exact hbl⟩
            · exact ⟨c, cs, g1, g2, g3, by rw [upd_ne hc]; exact e5 _ _ g4, g5⟩
          · obtain ⟨⟨z, rfl⟩, d4, hA4, R4⟩ := h
            exact ⟨⟨_, _, rfl⟩, d4, hA4, R4⟩
        · obtain ⟨⟨y, z, rfl⟩, d3, hA3, R3⟩ := h
          exact ⟨⟨_, _, _, rfl⟩, d3, hA3, R3⟩
      · obtain ⟨⟨x, y, z, rfl⟩, d2, hA2, R2⟩ := h
        have hr := rows2_len (n := n) 7 (by omega)
        have L := en_L (K := K) (H := H') (σ := [some (.ref p.a), some (.int n), some (.ref A), x, y, z, none]) (tl := tCall (sp_law_pairs K) [] C8.E0 (tCons (tVar 1) tNil)) (g := gName 6) (vs := [6]) (enc := pD) (as := rows2 n) (f := fB H' xs) (r := pD)
          (te := tVar 6) (t := tB (tOp (rIxL K) (tOp (rIxL K) (tVar 2) (tOp (rIxT K) (tVar 6) (tC (.int 0)))) (tOp (rIxT K) (tVar 6) (tC (.int 1))))) (τ := fun _ x' => [some (.ref p.a), some (.int n), some (.ref A), x, y, z, some x'])
          (evd_pairs (n := n) (ev_var rfl) (by omega) (by omega)) (by omega) noL_pair (fun a x H1 R hx hR => hR) (fun a x H1 hx => rfl)
          (fun pr x' H3 hp e3 hx => by
            have hg := mem_rows2.mp hp
            exact et_B (ev_cell hA2 hxn R2 e3 (ev_var rfl) (ev_p0 (ev_var rfl) hx) (ev_p1 (ev_var rfl) hx) (by omega) (by omega) (by omega) (by omega))) (fun a x H2 _ _ hx _ => evd_v (ev_var rfl) hx)
        refine go_ret (go_tup (go_cons (go_var rfl (go_cons (go_cb (go_cons (L H' (Ex.refl H') _ fun l ys H3 hl e3 h3 hd => ?_)))))))
        refine go_graph (n := n) (es := (rows2 n).filter (fB H' xs)) (sq_of h3) hd fun t H4 e4 G4 => ?_
        exact q _ _ _ ((d2.ex e3).ex e4) G4 (ok_sub h1 h7 List.filter_sublist)
end
end Tr
namespace Tr
open PySem PySem.Spec PyProof.Rows L2 Evl StX
open C8 (Cal pe_c pe_gc)
section
variable {P : Program} {w : World} {K : PySem.W.Frag} {mg : Str → Option Value} {base : Heap}
theorem dpa_erase {K : PySem.W.Frag} {H : Hp} : ∀ {vs : List V} {ds : List PyData} (k : Nat), DpAll K H vs ds → DpAll K H (vs.eraseIdx k) (ds.eraseIdx k)
  | _, _, _, .nil => .nil
  | _, _, 0, .cons _ b => b
  | _, _, k + 1, .cons a b => .cons a (dpa_erase k b)
theorem allTr_erase {R : PyData → List Int → Prop} : ∀ {ds : List PyData} {ls : List (List Int)} (k : Nat), AllTr R ds ls → AllTr R (ds.eraseIdx k) (ls.eraseIdx k)
  | [], [], _, _ => trivial
  | d :: ds, l :: ls, 0, ⟨_, b⟩ => b
  | d :: ds, l :: ls, k + 1, ⟨a, b⟩ => ⟨a, allTr_erase k b⟩
  | [], _ :: _, _, h => h.elim
  | _ :: _, [], _, h => h.elim
theorem allTr_ints (k : Nat) : ∀ ks : List Int, AllTr (TrD 0) (ks.map PyData.int) (ks.map fun k => [k])
  | [] => trivial
  | a :: r => ⟨⟨a, rfl, rfl⟩, allTr_ints k r⟩
theorem flatten_ints : ∀ ks : List Int, (ks.map fun k => [k]).flatten = ks
  | [] => rfl
  | a :: r => by
    show a :: (r.map fun k => [k]).flatten = a :: r
    rw [flatten_ints r]
theorem sc_law_drawn_tree : FnScope ["_law_pool_here", "_law_leaves_here", "_law_trees", "_law_k", "_law_many", "_law_parts", "_law_j"] ["_law_pool_here", "_law_leaves_here"] (defScope (top 247)) := ⟨rfl, rfl, rfl, by decide +kernel, rfl, by decide +kernel, by decide +kernel⟩
theorem ok_law_drawn_tree (D : DefAt K mg "_law_drawn_tree" 247) (B : Bt mg) (c_law_draw : Ca P w K mg base 2 "_law_draw" (sp_law_draw K)) : Ca P w K mg base 3 "_law_drawn_tree" (sp_law_drawn_tree K) := by
  refine D.mk (k := 2) sc_law_drawn_tree (fun _ _ _ _ _ _ us hl => match us, hl with | [_, _], _ => rfl) (fun vs H Q E h => ?_) (fun f cdv A outer s H vs Q E hr h => ?_)
  · obtain ⟨p, l, ks, rfl, _⟩ := h
    rfl
  · obtain ⟨p, l, ks, rfl, hP, hl, hz1, hz7, q⟩ := h
    have hu := hu_of hr
    have hu65 := hu65_of hr
    have sc := sc_law_drawn_tree
    refine ⟨_, (pss_cons (ps_set (i := 2) sc.nd rfl (by first | exact Or.inl rfl | exact Or.inr rfl) (pe_callTy (lstS K) (by rfl) B.list_ (by decide +kernel) (pa_cons (pv 1) pa_nil)))
      (pss_cons (ps_for PassesOwn.never rfl (pi_range1 (by rfl) B.range_ (pa_cons (pe_op op_sub (pe_callB (lenS K) (by rfl) B.len_ PySem.boot_len (pa_cons (pv 2) pa_nil)) pe_int) pa_nil)) (pg_name (i := 3) sc.nd rfl (by first | exact Or.inl rfl | exact Or.inr rfl)) (pss_one (ps_if (pt_cmpR op_gt (pe_callB (lenS K) (by rfl) B.len_ PySem.boot_len (pa_cons (pv 2) pa_nil)) pe_int (nomark _)) (pss_cons (ps_set (i := 4) sc.nd rfl (by first | exact Or.inl rfl | exact Or.inr rfl) (pe_callB (call_min2 rfl) (by rfl) B.min_ (by decide +kernel) (pa_cons (pe_callB (lenS K) (by rfl) B.len_ PySem.boot_len (pa_cons (pv 2) pa_nil)) (pa_cons (pe_op op_add pe_int (pe_c c_law_draw hr (by decide) (by rfl) (pa_cons (pv 0) (pa_cons pe_int pa_nil)))) pa_nil))))
      (pss_cons (ps_setLc (i := 5) (own := [("_law_j", 6)]) (by rfl) sc.nd rfl rfl (sw_true rfl rfl rfl (by decide +kernel)) (pi_range1 (by rfl) B.range_ (pa_cons (pv 4) pa_nil)) (blkOk_by (own := [("_law_j", 6)]) (N := ["_law_pool_here", "_law_leaves_here", "_law_trees", "_law_k", "_law_many", "_law_parts", "_law_j"]) (sc := defScope (top 247)) (by decide +kernel)) (fun _ _ _ _ _ => (pg_name (i := 6) sc.nd rfl (by first | exact Or.inl rfl | exact Or.inr rfl))) (fun _ _ _ _ _ => pts_nil) (fun _ _ _ _ _ => (bmS K PySem.F.plainAttrs_list PySem.F.slot_list_pop PySem.F.type_list_pop mt_popAt (pv 2) (pa_cons (pe_c c_law_draw hr (by decide) (by rfl) (pa_cons (pv 0) (pa_cons (pe_callB (lenS K) (by rfl) B.len_ PySem.boot_len (pa_cons (pv 2) pa_nil)) pa_nil))) pa_nil))))
      (pss_one (ps_expr (bmS K PySem.F.plainAttrs_list PySem.F.slot_list_append PySem.F.type_list_append mt_append (pv 2) (pa_cons (pe_op (catA K) (pe_tup (pa_cons (pe_ix (ixL K) (pe_lst (pa_cons pe_str (pa_cons pe_str pa_nil))) (pe_c c_law_draw hr (by decide) (by rfl) (pa_cons (pv 0) (pa_cons pe_int pa_nil))) (fun _ _ => rfl)) pa_nil)) (pe_callTy (tupS K) (by rfl) B.tuple_ (by decide +kernel) (pa_cons (pv 5) pa_nil))) pa_nil)))))) pss_nil)))
      (pss_one (ps_ret (pe_ix (ixL K) (pv 2) pe_int (fun _ _ => rfl)))))), ?_⟩
    refine q_asgL (el_list (ev_var rfl) hl) fun T H1 hT0 e1 hT1 => ?_
    have hTp := pool_ne hP hT0
    have hlk : ((ks.map V.int).length : Int) = (ks.length : Int) := by rw [List.length_map]
    refine q_forR1 (n := (ks.length : Int) - 1) (ea_cons (ev_sub (ev_is (ev_len (ev_var rfl) (sq_of hT1)) (congrArg V.int hlk)) ev_c) ea_nil) (by omega)
      (fun i σ' H' => (∃ x y z, σ' = [some (.ref p.a), some (.ref l), some (.ref T), x, y, z, none]) ∧ Dr K H p H' ∧ ∃ xs ds lss, H' T = some (.lst xs) ∧ DpAll K H' xs ds ∧ AllTr (TrD i) ds lss ∧ lss.flatten.Perm ks ∧ 1 ≤ xs.length ∧ xs.length ≤ 7 ∧ (xs.length + i ≤ ks.length ∨ xs.length = 1))
      (fun H2 e2 => ⟨⟨_, _, _, rfl⟩, (Dr.of hP e1).ex e2, _, _, _, e2 _ _ hT1, dpa_ints ks, allTr_ints 0 ks, by rw [flatten_ints], by rw [List.length_map]; exact hz1, by rw [List.length_map]; exact hz7, .inl (by rw [List.length_map]; omega)⟩) (fun i σ' H' hi h => ?_) (fun σ' H' h => ?_)
    · obtain ⟨⟨x, y, z, rfl⟩, d, xs, ds, lss, hT, hd, htr, hpm, hx1, hx7, hxi⟩ := h
      have hdl := dpa_len hd
      have hal := allTr_len htr
      refine s_when (et_test (ev_gt (ev_len (ev_var rfl) (sq_of hT)) ev_c)) (fun hb H2 e2 => ?_) (fun hb H2 e2 => ?_)
      · have hgt : 1 < xs.length := by
          have := of_decide_eq_true hb
          omega
        have hT2 := e2 _ _ hT
        have d2 := d.ex e2
        -- many
        refine go_seqA (go_cb (go_cons (ev_len (ev_var rfl) (sq_of hT2) H2 (Ex.refl H2) _ fun H3 e3 => go_cons (go_op (go_c (go_drawP (p := p) rfl ev_c (d2.pool.ex e3) (by decide) (by decide) fun b H4 d4 hb0 hb1 => ⟨2, b, rfl, rfl, go_nil ⟨(xs.length : Int), 2 + b, rfl, ?_⟩⟩))))))
        have hmany : 2 ≤ (if 2 + b < (xs.length : Int) then 2 + b else (xs.length : Int)) ∧ (if 2 + b < (xs.length : Int) then 2 + b else (xs.length : Int)) ≤ (xs.length : Int) := by
          split <;> omega
        generalize (if 2 + b < (xs.length : Int) then 2 + b else (xs.length : Int)) = m at hmany
        obtain ⟨hm2, hml⟩ := hmany
        have d4' := (d2.ex e3).trans d4
        have hT4 := d4.get hTp (e3 _ _ hT2)
        have hd4 := dpa_tx ((d4.tx (d2.pool.ex e3))) (allTr_noL htr) (dpa_ex (e2.trans e3) hd)
        -- parts
        refine go_seqA (lc_R1 (n := m) (ea_cons (ev_var rfl) ea_nil) (by omega) fun H5 D e5 hD => ?_)
        have d5 := d4'.ex e5
        have hD0 := d5.fresh hD
        have hDp := pool_ne hP hD0
        have hT5 := e5 _ _ hT4
        have TD : T ≠ D := ne_of_none hT5 hD
        refine ⟨fun j H' => Dr K H p H' ∧ ∃ xs' ds' lss' acc es mss, H' T = some (.lst xs') ∧ DpAll K H' xs' ds' ∧ AllTr (TrD i) ds' lss' ∧ H' D = some (.lst acc) ∧ DpAll K H' acc es ∧ AllTr (TrD i) es mss ∧ (mss ++ lss').Perm lss ∧ xs'.length + j = xs.length ∧ acc.length = j,
          ⟨d5.ex (Ex.new hD), xs, ds, lss, [], [], [], (Ex.new hD) _ _ hT5, dpa_ex (e5.trans (Ex.new hD)) hd4, htr, upd_same, .nil, trivial, List.Perm.refl _, rfl, rfl⟩, fun j H6 hj c => ?_, fun H6 c => ?_⟩
        · obtain ⟨d6, xs', ds', lss', acc, es, mss, hT6, hd6, htr6, hD6, he6, htm6, hpm6, hxl, hal6⟩ := c
          have hdl6 := dpa_len hd6
          have hall6 := allTr_len htr6
          refine ⟨rfl, yes_go (iteT ?_)⟩
          refine ⟨_, rfl, .inl ⟨rfl, _, sq_of hT6⟩, go_cons (go_drawP (p := p) rfl (ev_len (ev_var rfl) (sq_of hT6)) d6.pool (by omega) (by omega) fun k H7 d7 hk0 hk1 => ?_)⟩
          have hkn : k.toNat < xs'.length := by omega
          have hT7 := d7.get hTp hT6
          obtain ⟨dk, hdk, hxd⟩ := dpa_get hd6 (List.getElem?_eq_getElem hkn)
          obtain ⟨lk, hlk2, htk⟩ := allTr_at htr6 hdk
          have hkl := (List.getElem?_eq_some_iff.mp hlk2)
          have d67 := d6.trans d7
          have txs : Tx H6 H7 := d7.tx d6.pool
          refine ⟨T, xs', k, k.toNat, xs'[k.toNat], rfl, rfl, hT7, by omega, by omega, seqIx hk0 hk1, List.getElem?_eq_getElem hkn, ?_⟩
          have tx8 : Tx H7 (upd H7 T (.lst (xs'.eraseIdx k.toNat))) := Tx.upd hT7 rfl
          have hD8 : (upd H7 T (.lst (xs'.eraseIdx k.toNat))) D = some (.lst acc) := by
            rw [upd_ne TD.symm]
            exact d7.get hDp hD6
          have tx9 : Tx (upd H7 T (.lst (xs'.eraseIdx k.toNat))) (upd (upd H7 T (.lst (xs'.eraseIdx k.toNat))) D (.lst (acc ++ [xs'[k.toNat]]))) := Tx.upd hD8 rfl
          have txA := (txs.trans tx8).trans tx9
          refine ⟨acc, hD8, sz_lt (by omega), (d67.mut hP hT0).mut hP hD0, xs'.eraseIdx k.toNat, ds'.eraseIdx k.toNat, lss'.eraseIdx k.toNat, acc ++ [xs'[k.toNat]], es ++ [dk], mss ++ [lk], by rw [upd_ne TD, upd_same], dpa_erase _ (dpa_tx txA (allTr_noL htr6) hd6), allTr_erase _ htr6, upd_same, ?_, ?_, ?_, ?_, by rw [List.length_append, hal6]; rfl⟩
          · exact dpa_app (dpa_tx txA (allTr_noL htm6) he6) (.cons (dp_tx txA (trD_noL htk) hxd) .nil)
          · exact allTr_app htm6 ⟨htk, trivial⟩
          · refine List.Perm.trans ?_ hpm6
            rw [List.append_assoc]
            refine List.Perm.append_left mss ?_
            have := perm_eraseI lss' k.toNat hkl.1
            rw [hkl.2] at this
            exact this
          · rw [List.length_eraseIdx_of_lt hkn]
            omega
        · obtain ⟨d6, xs', ds', lss', acc, es, mss, hT6, hd6, htr6, hD6, he6, htm6, hpm6, hxl, hal6⟩ := c
          have hmn : (m.toNat : Int) = m := by omega
          have hel := dpa_len he6
          -- trees.append
          refine ⟨_, rfl, .inl ⟨rfl, _, sq_of hT6⟩, go_cons (go_op (go_tup (go_cons (go_op (go_lst (go_cons (go_c (go_cons (go_c (go_nil ⟨by show 2 ≤ sizeLine; decide, fun s hs => ?_⟩))))))))))⟩
          have e7 : Ex H6 (upd H6 s (.lst [.str "union", .str "join"])) := Ex.new hs
          have hsp := pool_ne d6.pool hs
          refine go_drawP (p := p) rfl ev_c (d6.pool.ex e7) (by decide) (by decide) fun k H8 d8 hk0 hk1 => ?_
          have hs8 : H8 s = some (.lst [.str "union", .str "join"]) := d8.get hsp upd_same
          obtain ⟨w, hw⟩ : ∃ w, atI [V.str "union", V.str "join"] k = some (.str w) := by
            have : k = 0 ∨ k = 1 := by omega
            rcases this with rfl | rfl
            · exact ⟨_, rfl⟩
            · exact ⟨_, rfl⟩
          refine ix_l (sq_of hs8) hw (go_nil ⟨by show 1 ≤ sizeLine; decide, fun t1 ht1 => ?_⟩)
          have e9 : Ex H8 (upd H8 t1 (.tup [.str w])) := Ex.new ht1
          have hD9 : (upd H8 t1 (.tup [.str w])) D = some (.lst acc) := e9 _ _ (d8.get hDp (e7 _ _ hD6))
          refine go_cb (go_cons (go_var rfl (go_nil (go_tupL (sq_of hD9) fun t2 ht2 => ?_))))
          have e10 : Ex (upd H8 t1 (.tup [.str w])) (upd (upd H8 t1 (.tup [.str w])) t2 (.tup acc)) := Ex.new ht2
          have hne : acc ≠ [] := List.ne_nil_of_length_pos (by omega)
          refine ⟨t1, t2, [.str w], acc, rfl, rfl, st_of (e10 _ _ upd_same), st_of upd_same, sz_of (by simp; omega), (fun z => nomatch z), (fun _ z => absurd z hne), fun _ _ t3 ht3 => ?_⟩
          have e11 : Ex (upd (upd H8 t1 (.tup [.str w])) t2 (.tup acc)) (upd (upd (upd H8 t1 (.tup [.str w])) t2 (.tup acc)) t3 (.tup ([.str w] ++ acc))) := Ex.new ht3
          have e8_11 := (e9.trans e10).trans e11
          have hT11 := e8_11 _ _ (d8.get hTp (e7 _ _ hT6))
          have d11 := ((d6.ex e7).trans d8).ex e8_11
          have ht3' : (upd (upd (upd H8 t1 (.tup [.str w])) t2 (.tup acc)) t3 (.tup ([.str w] ++ acc))) t3 = some (.tup ([.str w] ++ acc)) := upd_same
          have tx11 : Tx H6 (upd (upd (upd H8 t1 (.tup [.str w])) t2 (.tup acc)) t3 (.tup ([.str w] ++ acc))) := ((Tx.of e7).trans (d8.tx (d6.pool.ex e7))).trans (Tx.of e8_11)
          generalize upd (upd (upd H8 t1 (.tup [.str w])) t2 (.tup acc)) t3 (.tup ([.str w] ++ acc)) = H11 at hT11 d11 ht3' tx11
          refine go_nil ⟨T, xs', _, rfl, rfl, hT11, sz_lt (by omega), ?_⟩
          have tx12 : Tx H11 (upd H11 T (.lst (xs' ++ [.ref t3]))) := Tx.upd hT11 rfl
          have txA := tx11.trans tx12
          refine ⟨⟨_, _, _, rfl⟩, d11.mut hP hT0, xs' ++ [.ref t3], ds' ++ [.tuple (.str w :: es)], lss' ++ [mss.flatten], upd_same, ?_, ?_, ?_, by rw [List.length_append]; simp, by rw [List.length_append]; simp; omega, ?_⟩
          · exact dpa_app (dpa_tx txA (allTr_noL htr6) hd6) (.cons (.tup (st_of (tx12 _ _ ht3' rfl)) (.cons (.str w) (dpa_tx txA (allTr_noL htm6) he6))) .nil)
          · exact allTr_app (allTr_mono (fun d l => trD_succ) htr6) ⟨.inr ⟨w, es, mss, rfl, htm6, rfl⟩, trivial⟩
          · refine List.Perm.trans ?_ hpm
            rw [List.flatten_append]
            show (lss'.flatten ++ ([mss.flatten]).flatten).Perm lss.flatten
            have e1 : ([mss.flatten] : List (List Int)).flatten = mss.flatten := by simp
            rw [e1]
            refine List.perm_append_comm.trans ?_
            rw [← List.flatten_append]
            exact hpm6.flatten
          · left
            rw [List.length_append]
            simp
            omega
      · have hx : xs.length = 1 := by
          have := of_decide_eq_false hb
          omega
        exact ⟨⟨_, _, _, rfl⟩, d.ex e2, xs, ds, lss, e2 _ _ hT, dpa_ex e2 hd, allTr_mono (fun d l => trD_succ) htr, hpm, hx1, hx7, .inr hx⟩
    · obtain ⟨⟨x, y, z, rfl⟩, d, xs, ds, lss, hT, hd, htr, hpm, hx1, hx7, hxi⟩ := h
      have hx : xs.length = 1 := by omega
      obtain ⟨v, rfl⟩ : ∃ v, xs = [v] := by
        match xs, hx with
        | [v], _ => exact ⟨v, rfl⟩
      obtain ⟨dv, hdv, hvd⟩ := dpa_get hd (i := 0) (x := v) rfl
      obtain ⟨lv, hlv, htv⟩ := allTr_at htr hdv
      have hdl := dpa_len hd
      have hal := allTr_len htr
      have hlss : lss = [lv] := by
        have h1 : lss.length = 1 := by rw [← hal, ← hdl]; rfl
        match lss, h1 with
        | [a], _ =>
          have : a = lv := by simpa using hlv
          rw [this]
      subst hlss
      have hpm2 : lv.Perm ks := by simpa using hpm
      refine s_ret (ev_ixL (j := 0) (v := v) (ev_var rfl) ev_c (sq_of hT) rfl) fun H2 e2 => ?_
      exact q v dv lv _ (d.ex e2) (dp_ex e2 hvd) (trD_mono (by omega) htv) hpm2
end
end Tr
namespace Tr
open PySem PySem.Spec PyProof.Rows L2 Evl StX
open C8 (Cal pe_c pe_gc)
section
variable {P : Program} {w : World} {K : PySem.W.Frag} {mg : Str → Option Value} {base : Heap}
theorem q_mid {a b : TS} {D : Ends} {σ : L2.St} {H : Hp} (Mid : L2.St → Hp → Prop) (h : ∀ nx' : L2.St → Hp → Prop, (∀ σ' H', Mid σ' H' → nx' σ' H') → a { D with nx := nx' } σ H) (k : ∀ σ' H', Mid σ' H' → b D σ' H') : tSeq a b D σ H := h (b D) k
theorem go_if {t : TT} {tu tv : TS} {D : Ends} {σ : L2.St} {H : Hp} (h : t σ H fun b H1 => if b = true then tu D σ H1 else tv D σ H1) : tIfS t tu tv D σ H := h
theorem go_next {D : Ends} {σ : L2.St} {H : Hp} (h : D.nx σ H) : tNext D σ H := h
theorem go_rgL {σ : L2.St} {H : Hp} {ta : TE} {n : Int} {Q : VK} (ha : Ev ta σ H (.int n)) (h0 : 0 ≤ n) (h1 : n ≤ 1000) (q : ∀ l H', Ex H H' → H l = none → H' l = some (.lst ((rgI 0 n.toNat).map V.int)) → Q (.ref l) H') : tLstRg (tRg1 ta) σ H Q := ha H (Ex.refl H) _ fun H1 e1 =>
  ⟨n, rfl, RgOk.of_le (by omega) (by omega) (by omega) (by omega), fun l hl => by
    rw [rgV_ints]
    exact q l _ (e1.trans (Ex.new hl)) (fresh_back e1 hl) upd_same⟩
theorem lay_tups : ∀ ls : List (List Int), PyData.canLayAll0 (ls.map fun l => PyData.tuple (l.map PyData.int)) = true
  | [] => by simp [PyData.canLayAll0]
  | l :: ls => by
    have h := lay_tups ls
    simp only [List.map_cons, PyData.canLayAll0, PyData.canLay0, lay_ints, h, Bool.and_self]
theorem depth_tups : ∀ ls : List (List Int), PyData.depthAll (ls.map fun l => PyData.tuple (l.map PyData.int)) ≤ 1
  | [] => by simp [PyData.depthAll]
  | l :: ls => by
    have := depth_tups ls
    have := depth_ints l
    simp only [List.map_cons, PyData.depthAll, PyData.depth]
    omega
theorem sh_tupsL (ls : List (List Int)) : SeqAt.shaped (.list (ls.map fun l => PyData.tuple (l.map PyData.int))) = true := shaped_of (by simp only [PyData.canLay0]; exact lay_tups ls) (by have := depth_tups ls; simp only [PyData.depth]; omega)
theorem eqv_nilG (l : List PyData) : PyData.eqv (.list l) (.list []) = decide (l = []) := by
  cases l <;> simp [PyData.eqv, PyData.eqvAll]
theorem sc_law_graph : FnScope ["_law_pool_here", "_law_most", "_law_way", "_law_n", "_law_graph_here"] ["_law_pool_here", "_law_most"] (defScope (top 250)) := ⟨rfl, rfl, rfl, by decide +kernel, rfl, by decide +kernel, by decide +kernel⟩
theorem ok_law_graph (D : DefAt K mg "_law_graph" 250) (B : Bt mg) (c_law_draw : Ca P w K mg base 2 "_law_draw" (sp_law_draw K)) (c_law_interval_graph : Ca P w K mg base 2 "_law_interval_graph" (sp_law_interval_graph K)) (c_law_interval_rows : Ca P w K mg base 3 "_law_interval_rows" (sp_law_interval_rows K)) (c_law_turned_graph : Ca P w K mg base 2 "_law_turned_graph" (sp_law_turned_graph K)) (c_law_shuffled : Ca P w K mg base 3 "_law_shuffled" (sp_law_shuffled K)) (c_law_ordered_graph : Ca P w K mg base 3 "_law_ordered_graph" (sp_law_ordered_graph K)) (c_law_clique_graph : Ca P w K mg base 3 "_law_clique_graph" (sp_law_clique_graph K)) (c_law_of : Ca P w K mg base 2 "_law_of" (sp_law_of K)) (c_law_tree_pairs : Ca P w K mg base 16 "_law_tree_pairs" (sp_law_tree_pairs K)) (c_law_drawn_tree : Ca P w K mg base 3 "_law_drawn_tree" (sp_law_drawn_tree K)) (c_law_ringed : Ca P w K mg base 3 "_law_ringed" (sp_law_ringed K)) (c_law_other : Ca P w K mg base 2 "_law_other" (sp_law_other K)) (c_law_random_graph : Ca P w K mg base 3 "_law_random_graph" (sp_law_random_graph K)) (c_law_moved : Ca P w K mg base 3 "_law_moved" (sp_law_moved K)) : Ca P w K mg base 17 "_law_graph" (sp_law_graph K) := by
  refine D.mk (k := 16) sc_law_graph (fun _ _ _ _ _ _ us hl => match us, hl with | [_, _], _ => rfl) (fun vs H Q E h => ?_) (fun f cdv A outer s H vs Q E hr h => ?_)
  · obtain ⟨p, n, rfl, _⟩ := h
    rfl
  · obtain ⟨p, most, rfl, hP, h1, h7, q⟩ := h
    have hu := hu_of hr
    have hu65 := hu65_of hr
    have sc := sc_law_graph
    refine ⟨_, (pss_cons (ps_set (i := 2) sc.nd rfl (by first | exact Or.inl rfl | exact Or.inr rfl) (pe_c c_law_draw hr (by decide) (by rfl) (pa_cons (pv 0) (pa_cons pe_int pa_nil))))
      (pss_cons (ps_set (i := 3) sc.nd rfl (by first | exact Or.inl rfl | exact Or.inr rfl) (pe_ix (ixL K) (pe_lst (pa_cons (pv 1) (pa_cons (pe_op op_add pe_int (pe_c c_law_draw hr (by decide) (by rfl) (pa_cons (pv 0) (pa_cons (pv 1) pa_nil)))) pa_nil))) (pe_callTy call_int1 (by rfl) B.int_ (by decide +kernel) (pa_cons (pe_cmpR op_eq (pe_c c_law_draw hr (by decide) (by rfl) (pa_cons (pv 0) (pa_cons pe_int pa_nil))) pe_int (nomark _)) pa_nil)) (fun _ _ => rfl)))
      (pss_cons (ps_if (pt_cmpR op_eq (pv 2) pe_int (nomark _)) (pss_one (ps_set (i := 4) sc.nd rfl (by first | exact Or.inl rfl | exact Or.inr rfl) (pe_c c_law_interval_graph hr (by decide) (by rfl) (pa_cons (pe_c c_law_interval_rows hr (by decide) (by rfl) (pa_cons (pv 0) (pa_cons (pv 3) pa_nil))) pa_nil)))) (pss_one (ps_if (pt_cmpR op_eq (pv 2) pe_int (nomark _)) (pss_one (ps_set (i := 4) sc.nd rfl (by first | exact Or.inl rfl | exact Or.inr rfl) (pe_c c_law_turned_graph hr (by decide) (by rfl) (pa_cons (pe_listRg rfl (by rfl) B.list_ (prg_1 (by rfl) B.range_ (pv 3))) (pa_cons (pe_c c_law_shuffled hr (by decide) (by rfl) (pa_cons (pv 0) (pa_cons (pe_listRg rfl (by rfl) B.list_ (prg_1 (by rfl) B.range_ (pv 3))) pa_nil))) pa_nil))))) (pss_one (ps_if (pt_cmpR op_eq (pv 2) pe_int (nomark _)) (pss_one (ps_set (i := 4) sc.nd rfl (by first | exact Or.inl rfl | exact Or.inr rfl) (pe_c c_law_ordered_graph hr (by decide) (by rfl) (pa_cons (pv 0) (pa_cons (pv 3) pa_nil))))) (pss_one (ps_if (pt_cmpR op_eq (pv 2) pe_int (nomark _)) (pss_one (ps_set (i := 4) sc.nd rfl (by first | exact Or.inl rfl | exact Or.inr rfl) (pe_c c_law_clique_graph hr (by decide) (by rfl) (pa_cons (pv 0) (pa_cons (pv 3) pa_nil))))) (pss_one (ps_if (pt_cmpR op_eq (pv 2) pe_int (nomark _)) (pss_one (ps_set (i := 4) sc.nd rfl (by first | exact Or.inl rfl | exact Or.inr rfl) (pe_c c_law_of hr (by decide) (by rfl) (pa_cons (pv 3) (pa_cons (pe_c c_law_tree_pairs hr (by decide) (by rfl) (pa_cons (pe_c c_law_drawn_tree hr (by decide) (by rfl) (pa_cons (pv 0) (pa_cons (pe_listRg rfl (by rfl) B.list_ (prg_1 (by rfl) B.range_ (pv 3))) pa_nil))) pa_nil)) pa_nil))))) (pss_one (ps_if (pt_cmpR op_lt (pv 2) pe_int (nomark _)) (pss_one (ps_set (i := 4) sc.nd rfl (by first | exact Or.inl rfl | exact Or.inr rfl) (pe_c c_law_ringed hr (by decide) (by rfl) (pa_cons (pv 0) (pa_cons (pv 3) pa_nil))))) (pss_one (ps_if (pt_cmpR op_eq (pv 2) pe_int (nomark _)) (pss_one (ps_set (i := 4) sc.nd rfl (by first | exact Or.inl rfl | exact Or.inr rfl) (pe_c c_law_other hr (by decide) (by rfl) (pa_cons (pe_c c_law_clique_graph hr (by decide) (by rfl) (pa_cons (pv 0) (pa_cons (pv 3) pa_nil))) pa_nil)))) (pss_one (ps_set (i := 4) sc.nd rfl (by first | exact Or.inl rfl | exact Or.inr rfl) (pe_c c_law_random_graph hr (by decide) (by rfl) (pa_cons (pv 0) (pa_cons (pv 1) pa_nil))))))))))))))))))
      (pss_cons (ps_if (pt_cmpR op_eq (pe_c c_law_draw hr (by decide) (by rfl) (pa_cons (pv 0) (pa_cons pe_int pa_nil))) pe_int (nomark _)) (pss_one (ps_set (i := 4) sc.nd rfl (by first | exact Or.inl rfl | exact Or.inr rfl) (pe_c c_law_other hr (by decide) (by rfl) (pa_cons (pv 4) pa_nil)))) pss_nil)
      (pss_cons (ps_if (pt_cmpR op_gt (pe_c c_law_draw hr (by decide) (by rfl) (pa_cons (pv 0) (pa_cons pe_int pa_nil))) pe_int (nomark _)) (pss_one (ps_set (i := 4) sc.nd rfl (by first | exact Or.inl rfl | exact Or.inr rfl) (pe_c c_law_moved hr (by decide) (by rfl) (pa_cons (pv 4) (pa_cons (pe_c c_law_shuffled hr (by decide) (by rfl) (pa_cons (pv 0) (pa_cons (pe_listRg rfl (by rfl) B.list_ (prg_1 (by rfl) B.range_ (pe_ix (ixT K) (pv 4) pe_int (fun _ _ => rfl)))) pa_nil))) pa_nil))))) pss_nil)
      (pss_one (ps_ret (pv 4)))))))), ?_⟩
    refine go_seqA (go_drawP (p := p) rfl ev_c hP (by decide) (by decide) fun way H1 d1 hw0 hw1 => ?_)
    refine go_seqA (go_nn (p := p) rfl rfl d1.pool h1 h7 fun n H2 d2 hn1 hn2 => ?_)
    have d12 := d1.trans d2
    have hn7 : n ≤ 7 := by omega
    show tSeq _ _ _ [some (.ref p.a), some (.int most), some (.int way), some (.int n), none] H2
    refine q_mid (fun σ' H' => ∃ v n' es, σ' = [some (.ref p.a), some (.int most), some (.int way), some (.int n), some v] ∧ Dr K H p H' ∧ Gr K H' v n' es ∧ Ok n' es) (fun nx hnx => ?_) (fun σ' H' h => ?_)
    · have leaf : ∀ v n' es H', Dr K H p H' → Gr K H' v n' es → Ok n' es → nx [some (.ref p.a), some (.int most), some (.int way), some (.int n), some v] H' := fun v n' es H' a b c => hnx _ _ ⟨v, n', es, rfl, a, b, c⟩
      refine s_if (et_test (ev_eqI (ev_var rfl) ev_c)) (fun _ H3 e3 => ?_) (fun _ H3 e3 => ?_)
      · have d3 := d12.ex e3
        refine go_asg (go_call (go_cons (go_call (go_cons (go_var rfl (go_cons (go_var rfl (go_nil ⟨p, n, rfl, d3.pool, hn1, hn7, fun l xs ps H4 d4 hl h4 hd hlen => go_nil ⟨_, ⟨l, xs, ps, rfl, sq_of h4, hd, by omega, by omega, rfl⟩, fun v H5 e5 hv => ?_⟩⟩)))))))) 
        obtain ⟨es, G, O⟩ := hv
        exact leaf v _ es _ ((d3.trans d4).ex e5) G O
      refine s_if (et_test (ev_eqI (ev_var rfl) ev_c)) (fun _ H4 e4 => ?_) (fun _ H4 e4 => ?_)
      · have d4 := (d12.ex e3).ex e4
        refine go_asg (go_call (go_cons (go_rgL (ev_var rfl) (by omega) (by omega) fun l H5 e5 hl h5 => go_cons (go_call (go_cons (go_var rfl (go_cons (go_rgL (ev_var rfl) (by omega) (by omega) fun l2 H6 e6 hl2 h6 => ?_))))))))
        have d6 := (d4.ex e5).ex e6
        refine go_nil ⟨p, l2, rgI 0 n.toNat, rfl, d6.pool, sq_of h6, by rw [rgI_len]; omega, fun l3 js H7 d7 hl3 h7' hpm => ?_⟩
        have hlp := pool_ne d4.pool hl
        refine go_nil ⟨_, ⟨l, l3, n, rgI 0 n.toNat, js, rfl, hn1, hn7, sq_of (d7.get hlp (e6 _ _ h5)), sq_of h7', List.Perm.refl _, hpm, rfl⟩, fun v H8 e8 hv => ?_⟩
        obtain ⟨es, G, O⟩ := hv
        exact leaf v _ es _ ((d6.trans d7).ex e8) G O
      refine s_if (et_test (ev_eqI (ev_var rfl) ev_c)) (fun _ H5 e5 => ?_) (fun _ H5 e5 => ?_)
      · have d5 := ((d12.ex e3).ex e4).ex e5
        exact go_asg (go_call (go_cons (go_var rfl (go_cons (go_var rfl (go_nil ⟨p, n, rfl, d5.pool, hn1, hn7, fun v es H6 d6 G O => leaf v n es _ (d5.trans d6) G O⟩))))))
      refine s_if (et_test (ev_eqI (ev_var rfl) ev_c)) (fun _ H6 e6 => ?_) (fun _ H6 e6 => ?_)
      · have d6 := (((d12.ex e3).ex e4).ex e5).ex e6
        exact go_asg (go_call (go_cons (go_var rfl (go_cons (go_var rfl (go_nil ⟨p, n, rfl, d6.pool, hn1, hn7, fun v es H7 d7 G O => leaf v n es _ (d6.trans d7) G O⟩))))))
      refine s_if (et_test (ev_eqI (ev_var rfl) ev_c)) (fun _ H7 e7 => ?_) (fun _ H7 e7 => ?_)
      · have d7 := ((((d12.ex e3).ex e4).ex e5).ex e6).ex e7
        refine go_asg (go_call (go_cons (go_var rfl (go_cons (go_call (go_cons (go_call (go_cons (go_var rfl (go_cons (go_rgL (ev_var rfl) (by omega) (by omega) fun l H8 e8 hl h8 => ?_)))))))))))
        have d8 := d7.ex e8
        refine go_nil ⟨p, l, rgI 0 n.toNat, rfl, d8.pool, sq_of h8, by rw [rgI_len]; omega, by rw [rgI_len]; omega, fun v dt ls H9 d9 hdp htr hpm => ?_⟩
        have hlr := hpm.length_eq
        rw [rgI_len] at hlr
        refine go_nil (go_tree_pairs hdp htr (by omega) (hpm.nodup_iff.mpr (rgI_nodup 0 n.toNat)) fun l2 xs ps H10 e10 hl2 h10 hd10 hgp => ?_)
        obtain ⟨hg1, hg2⟩ := hgp
        have hll : ls.length * ls.length ≤ 7 * 7 := Nat.mul_le_mul (by omega) (by omega)
        refine go_nil ⟨_, ⟨n, l2, ps, rfl, ⟨xs, sq_of h10, hd10⟩, by omega, rfl⟩, fun v2 H11 e11 hv => ?_⟩
        obtain ⟨es, G, hle, hme⟩ := hv
        refine leaf v2 n es _ (((d8.trans d9).ex e10).ex e11) G (ok_of_pairs hn1 hn7 hle (by omega) hme fun q hq => ?_)
        have hr : ∀ y, y ∈ ls → 0 ≤ y ∧ y < n := fun y hy => by
          have := mem_rgI.mp (hpm.mem_iff.mp hy)
          omega
        have := hg2 q hq
        exact ⟨hr _ this.1, hr _ this.2.1, this.2.2⟩
      refine s_if (et_test (ev_lt (ev_var rfl) ev_c)) (fun _ H8 e8 => ?_) (fun _ H8 e8 => ?_)
      · have d8 := (((((d12.ex e3).ex e4).ex e5).ex e6).ex e7).ex e8
        exact go_asg (go_call (go_cons (go_var rfl (go_cons (go_var rfl (go_nil ⟨p, n, rfl, d8.pool, hn1, hn7, fun v es H7 d7 G O => leaf v n es _ (d8.trans d7) G O⟩))))))
      have d8 := (((((d12.ex e3).ex e4).ex e5).ex e6).ex e7).ex e8
      refine s_if (et_test (ev_eqI (ev_var rfl) ev_c)) (fun _ H9 e9 => ?_) (fun _ H9 e9 => ?_)
      · have d9 := d8.ex e9
        refine go_asg (go_call (go_cons (go_call (go_cons (go_var rfl (go_cons (go_var rfl (go_nil ⟨p, n, rfl, d9.pool, hn1, hn7, fun v es H10 d10 G O => go_nil ⟨_, ⟨v, n, es, rfl, G, O, rfl⟩, fun v2 H11 e11 hv => ?_⟩⟩))))))))
        obtain ⟨es2, G2, O2⟩ := hv
        exact leaf v2 n es2 _ ((d9.trans d10).ex e11) G2 O2
      · have d9 := d8.ex e9
        exact go_asg (go_call (go_cons (go_var rfl (go_cons (go_var rfl (go_nil ⟨p, most, rfl, d9.pool, h1, h7, fun v n' es H7 d7 G O => leaf v n' es _ (d9.trans d7) G O⟩))))))
    · obtain ⟨v, n', es, rfl, d, G, O⟩ := h
      refine q_mid (fun σ' H' => ∃ v n' es, σ' = [some (.ref p.a), some (.int most), some (.int way), some (.int n), some v] ∧ Dr K H p H' ∧ Gr K H' v n' es ∧ Ok n' es) (fun nx hnx => ?_) (fun σ' H' h => ?_)
      · refine go_if (go_test (go_op (go_drawP (p := p) rfl ev_c d.pool (by decide) (by decide) fun b H3 d3 hb0 hb1 => ⟨rfl, _, rfl, ?_⟩)))
        have G3 := G.tx (d3.tx d.pool)
        refine ite2 (fun hb => ?_) (fun hb => ?_)
        · refine go_asg (go_call (go_cons (go_var rfl (go_nil ⟨_, ⟨v, n', es, rfl, G3, O, rfl⟩, fun v2 H4 e4 hv => ?_⟩))))
          obtain ⟨es2, G2, O2⟩ := hv
          exact hnx _ _ ⟨v2, n', es2, rfl, (d.trans d3).ex e4, G2, O2⟩
        · exact go_next (hnx _ _ ⟨v, n', es, rfl, d.trans d3, G3, O⟩)
      · obtain ⟨v, n', es, rfl, d, G, O⟩ := h
        have hlo := O.lo
        have hhi := O.hi
        refine q_mid (fun σ' H' => ∃ v n' es, σ' = [some (.ref p.a), some (.int most), some (.int way), some (.int n), some v] ∧ Dr K H p H' ∧ Gr K H' v n' es ∧ Ok n' es) (fun nx hnx => ?_) (fun σ' H' h => ?_)
        · refine go_if (go_test (go_op (go_drawP (p := p) rfl ev_c d.pool (by decide) (by decide) fun b H3 d3 hb0 hb1 => ⟨b, 0, rfl, rfl, _, rfl, ?_⟩)))
          have G3 := G.tx (d3.tx d.pool)
          refine ite2 (fun hb => ?_) (fun hb => ?_)
          · refine go_asg (go_call (go_cons (go_var rfl (go_cons (go_call (go_cons (go_var rfl (go_cons (go_rgL (n := n') (ev_n (ev_var rfl) G3) (by omega) (by omega) fun l H4 e4 hl h4 => ?_)))))))))
            have d4 := (d.trans d3).ex e4
            refine go_nil ⟨p, l, rgI 0 n'.toNat, rfl, d4.pool, sq_of h4, by rw [rgI_len]; omega, fun l2 js H5 d5 hl2 h5 hpm => ?_⟩
            refine go_nil ⟨_, ⟨v, n', es, l2, js, rfl, (G3.ex e4).tx (d5.tx d4.pool), O, sq_of h5, hpm, rfl⟩, fun v2 H6 e6 hv => ?_⟩
            obtain ⟨es2, G2, O2⟩ := hv
            exact hnx _ _ ⟨v2, n', es2, rfl, (d4.trans d5).ex e6, G2, O2⟩
          · exact go_next (hnx _ _ ⟨v, n', es, rfl, d.trans d3, G3, O⟩)
        · obtain ⟨v, n', es, rfl, d, G, O⟩ := h
          exact go_ret (go_var rfl (q v n' es _ d G O))
end
end Tr
namespace Tr
open PySem PySem.Spec PyProof.Rows L2 Evl StX
open C8 (Cal pe_c pe_gc)
section
variable {P : Program} {w : World} {K : PySem.W.Frag} {mg : Str → Option Value} {base : Heap}
theorem fn_mk {x : Str} {i : Nat} {N ps : List Str} {k : Nat} {sp : Sp} {f : Addr} {fd : FuncData} (F : FunD K x x (defArgs (top i)) (defBody (top i)) (defScope (top i)) [] [] f fd) (S : FnScope N ps (defScope (top i)))
    (len : ∀ vs H Q E, sp vs H Q E → vs.length = ps.length)
    (body : ∀ (f : Addr) (cdv : Value) (A : Around) (outer : List Env) (s : Shared) (H : Hp) (vs : List V) (Q : VK) (E : XK), Room k (A.deeper (envOfC x (defScope (top i)) s.heap.objs.size f cdv)) → sp vs H Q E →
      ∃ t, PSs (cxOf CX0 P w K mg base N x (defScope (top i)) f cdv A outer s H E).nox (defBody (top i)) t ∧ t { nx := fun _ H' => Q .non H', rt := Q } (start N vs) H) : FnOk P w K mg base CX0 (k + 1) f fd ps sp :=
  F.ok S len fun cdv A outer s H vs Q E hr h => by
    obtain ⟨t, h1, h2⟩ := body f cdv A outer s H vs Q E hr h
    exact ⟨t, h1.nox, h2⟩
def sp_law (K : PySem.W.Frag) : Sp := fun vs H Q _ => ∃ (a : Addr) (ns : List Int), vs = [.ref a] ∧ SqL K H a (ns.map V.int) ∧ ∀ H', Q (.bl true) H'
def rIsBl : R2 := fun x y H Q => ∃ a b, x = .bl a ∧ y = .bl b ∧ Q (.bl (decide (a = b))) H
theorem sc_law : FnScope ["_law_script", "_law_pool_here", "_law_graph_here", "_law_paper"] ["_law_script"] (defScope (top 260)) := ⟨rfl, rfl, rfl, by decide +kernel, rfl, by decide +kernel, by decide +kernel⟩
theorem ok_law {f : Addr} {fd : FuncData} (F : FunD K "law" "law" (defArgs (top 260)) (defBody (top 260)) (defScope (top 260)) [] [] f fd) (B : Bt mg) (c_law_pool : Ca P w K mg base 1 "_law_pool" (sp_law_pool K)) (c_law_graph : Ca P w K mg base 17 "_law_graph" (sp_law_graph K)) (c_law_draw : Ca P w K mg base 2 "_law_draw" (sp_law_draw K)) (c_law_clique_graph : Ca P w K mg base 3 "_law_clique_graph" (sp_law_clique_graph K)) (c_decide : Ca P w K mg base 7 "decide" (sp_decide K)) (c_law_holes : Ca P w K mg base 5 "_law_holes" (sp_law_holes K)) (c_check : Ca P w K mg base 9 "check" (sp_check K)) (c_law_chordal_right : Ca P w K mg base 5 "_law_chordal_right" (sp_law_chordal_right K)) : FnOk P w K mg base CX0 18 f fd ["_law_script"] (sp_law K) := by
  refine fn_mk F (k := 17) sc_law (fun vs H Q E h => ?_) (fun f cdv A outer s H vs Q E hr h => ?_)
  · obtain ⟨a, ns, rfl, _⟩ := h
    rfl
  · obtain ⟨a, ns, rfl, hS, q⟩ := h
    have hu := hu_of hr
    have hu65 := hu65_of hr
    have sc := sc_law
    refine ⟨_, (pss_cons (ps_set (i := 1) sc.nd rfl (by first | exact Or.inl rfl | exact Or.inr rfl) (pe_c c_law_pool hr (by decide) (by rfl) (pa_cons (pv 0) pa_nil)))
      (pss_cons (ps_set (i := 2) sc.nd rfl (by first | exact Or.inl rfl | exact Or.inr rfl) (pe_c c_law_graph hr (by decide) (by rfl) (pa_cons (pv 1) (pa_cons pe_int pa_nil))))
      (pss_cons (ps_if (pt_cmpR op_eq (pe_c c_law_draw hr (by decide) (by rfl) (pa_cons (pv 1) (pa_cons pe_int pa_nil))) pe_int (nomark _)) (pss_one (ps_set (i := 2) sc.nd rfl (by first | exact Or.inl rfl | exact Or.inr rfl) (pe_c c_law_clique_graph hr (by decide) (by rfl) (pa_cons (pv 1) (pa_cons (pe_op op_add pe_int (pe_c c_law_draw hr (by decide) (by rfl) (pa_cons (pv 1) (pa_cons pe_int pa_nil)))) pa_nil))))) pss_nil)
      (pss_cons (ps_set (i := 3) sc.nd rfl (by first | exact Or.inl rfl | exact Or.inr rfl) (pe_c c_decide hr (by decide) (by rfl) (pa_cons (pv 2) (pa_cons (pe_tup (pa_cons pe_str pa_nil)) pa_nil))))
      (pss_cons (ps_if (PW.pt (pw_or (pt_not (pt_val (pe_callB (isiS K) (by rfl) B.isinstance_ (by decide +kernel) (pa_cons (pv 3) (pa_cons (pe_bltn (v := .ty "tuple") (by rfl) B.tuple_ (by decide +kernel) rfl) pa_nil))))) (pw_or (pt_cmpR op_ne (pe_callB (lenS K) (by rfl) B.len_ PySem.boot_len (pa_cons (pv 3) pa_nil)) pe_int (nomark _)) (pw_or1 (pt_cmpR op_ne (pe_ix (ixT K) (pv 3) pe_int (fun _ _ => rfl)) (pe_ix (ixL K) (pe_lst (pa_cons pe_str (pa_cons pe_str pa_nil))) (pe_callTy call_int1 (by rfl) B.int_ (by decide +kernel) (pa_cons (pe_cmpR (eqD K hu65) (pe_c c_law_holes hr (by decide) (by rfl) (pa_cons (pv 2) pa_nil)) (pe_lst pa_nil) (nomark _)) pa_nil)) (fun _ _ => rfl)) (nomark _)))))) (pss_one (ps_ret pe_bl)) pss_nil)
      (pss_one (ps_ret (pe_and (pe_c c_law_chordal_right hr (by decide) (by rfl) (pa_cons (pv 2) (pa_cons (pe_ix (ixT K) (pv 3) pe_int (fun _ _ => rfl)) (pa_cons (pe_ix (ixT K) (pv 3) pe_int (fun _ _ => rfl)) pa_nil)))) (pe_one (pe_cmpR op_is_bl (pe_c c_check hr (by decide) (by rfl) (pa_cons (pv 2) (pa_cons (pe_tup (pa_cons pe_str pa_nil)) (pa_cons (pv 3) pa_nil)))) pe_bl (nomark _))))))))))), ?_⟩
    refine go_seqA ⟨_, rfl, a, ns, rfl, hS, fun p H1 e1 hp hP => ?_⟩
    refine go_seqA ⟨_, rfl, p, 7, rfl, hP, by decide, by decide, fun g n es H2 d2 G O => ?_⟩
    show tSeq _ _ _ [some (.ref a), some (.ref p.a), some g, none] H2
    refine q_mid (fun σ' H' => ∃ g n es, σ' = [some (.ref a), some (.ref p.a), some g, none] ∧ Gr K H' g n es ∧ Ok n es) (fun nx hnx => ?_) (fun σ' H' h => ?_)
    · refine go_if (go_test (go_op (go_drawP (p := p) rfl ev_c d2.pool (by decide) (by decide) fun b H3 d3 hb0 hb1 => ⟨rfl, _, rfl, ?_⟩)))
      refine ite2 (fun hb => ?_) (fun hb => ?_)
      · refine go_asg (go_call (go_cons (go_var rfl (go_cons (go_op (go_c (go_drawP (p := p) rfl ev_c d3.pool (by decide) (by decide) fun m H4 d4 hm0 hm1 => ⟨1, m, rfl, rfl, go_nil ⟨p, 1 + m, rfl, d4.pool, by omega, by omega, fun v es2 H5 d5 G5 O5 => ?_⟩⟩)))))))
        exact hnx _ _ ⟨v, _, es2, rfl, G5, O5⟩
      · exact go_next (hnx _ _ ⟨g, n, es, rfl, G.tx (d3.tx d2.pool), O⟩)
    · obtain ⟨g, n, es, rfl, G, O⟩ := h
      -- paper = decide(graph, ("chordal",))
      refine go_seqA (go_call (go_cons (go_var rfl (go_cons (go_tup (go_cons (go_c (go_nil ⟨by show 1 ≤ sizeLine; decide, fun t ht => ?_⟩))))))))
      have e3 : Ex H' (upd H' t (.tup [.str "chordal"])) := Ex.new ht
      refine go_nil ⟨_, ⟨g, n, es, t, rfl, st_of upd_same, G.ex e3, O, rfl⟩, fun x H4 e4 hx => ?_⟩
      have e34 := e3.trans e4
      have G4 := G.ex e34
      have hx0 := hx
      obtain ⟨pp, tt, ks, rfl, hks, hg, hcase⟩ := hx
      obtain ⟨w, hpp, hA, hw⟩ : ∃ w : String, SqT K H4 pp [.str w, .ref tt] ∧ ((V.str w = V.str "no" ∧ HoleArg K H4 g tt) ∨ (V.str w = V.str "yes" ∧ PeoArg K H4 g tt)) ∧ ((w = "yes" ∧ NoHoleC (adj es)) ∨ (w = "no" ∧ HoleP (adj es) ks)) := by
        rcases hcase with ⟨h1, h2, h3, h4⟩ | ⟨h1, h2⟩
        · exact ⟨"yes", h1, .inr ⟨rfl, n, es, ks, G4, hks, hg, O, h2, h3⟩, .inl ⟨rfl, h4⟩⟩
        · exact ⟨"no", h1, .inl ⟨rfl, n, es, ks, G4, hks, hg, O, h2⟩, .inr ⟨rfl, h2⟩⟩
      have T : EvT (tOr (tNot (tB (tCB (rIsi K) (tCons (tVar 3) (tCons (tC (.ty "tuple")) tNil))))) (tOr (tTest (tOp rNe (tCB (Evl.rLenS K) (tCons (tVar 3) tNil)) (tC (.int 2)))) (tTest (tOp rNe (tOp (rIxT K) (tVar 3) (tC (.int 0))) (tOp (rIxL K) (tLst (tCons (tC (.str "no")) (tCons (tC (.str "yes")) tNil))) (tCB rInt1 (tCons (tOp (rEqD K) (tCall (sp_law_holes K) [] C8.E0 (tCons (tVar 2) tNil)) (tLst tNil)) tNil)))))))
          [some (.ref a), some (.ref p.a), some g, some (.ref pp)] H4 false := et_is (et_or (et_not (et_B (ev_isi (b := true) (ev_var rfl) (ty_t hpp) (by decide +kernel)))) fun _ => et_or (b := false) (et_test (ev_neI (ev_lenT (ev_var rfl) hpp) ev_c)) fun _ => et_is (et_test (ev_op (y := .str w) (ev_ixT (j := 0) (ev_var rfl) ev_c hpp rfl) (fun H5 e5 Q5 q5 => ?_) (rv_ne rfl))) (by simp)) (by rfl)
      · refine q_when T (fun z => nomatch z) fun _ H5 e5 => ?_
        have e45 := e34.trans e5
        have hpp5 := ex_t e5 hpp
        have h5 : (V.str w = .str "no" ∧ HoleArg K H5 g tt) ∨ (V.str w = .str "yes" ∧ PeoArg K H5 g tt) := by
          rcases hA with ⟨ea, h⟩ | ⟨ea, h⟩
          · exact .inl ⟨ea, h.ex e5⟩
          · exact .inr ⟨ea, h.ex e5⟩
        have C1 : SpV (sp_law_chordal_right K) [g, .str w, .ref tt] H5 (.bl true) := sv_cch h5
        refine go_ret (ev_call3 (ev_var rfl) (ev_ixT (j := 0) (ev_var rfl) ev_c hpp5 rfl) (ev_ixT (j := 1) (ev_var rfl) ev_c hpp5 rfl) C1 H5 (Ex.refl H5) _ fun H6 e6 => ⟨true, rfl, ?_⟩)
        refine iteT (go_op (go_call (go_cons (go_var rfl (go_cons (go_tup (go_cons (go_c (go_nil ⟨by show 1 ≤ sizeLine; decide, fun t2 ht2 => ?_⟩)))))))))
        have e7 : Ex H6 (upd H6 t2 (.tup [.str "chordal"])) := Ex.new ht2
        refine go_cons (go_var rfl (go_nil ⟨_, ⟨g, n, es, t2, .ref pp, rfl, st_of upd_same, G.ex ((e45.trans e6).trans e7), O, Paper.ex hx0 ((e5.trans e6).trans e7), rfl⟩, fun v H8 e8 hv => ?_⟩))
        have hv2 : v = .bl true := hv
        subst hv2
        exact ⟨true, true, rfl, rfl, q _⟩
      · refine go_op (go_lst (go_cons (go_c (go_cons (go_c (go_nil ⟨by show 2 ≤ sizeLine; decide, fun l hl => ?_⟩))))))
        have e6 : Ex H5 (upd H5 l (.lst [.str "no", .str "yes"])) := Ex.new hl
        refine go_cb (go_cons (go_op (go_call (go_cons (go_var rfl (go_nil ⟨_, ⟨g, n, es, rfl, G4.ex (e5.trans e6), O, rfl⟩, fun v H7 e7 hv => ?_⟩))))))
        obtain ⟨hs, ⟨r, rs, rfl, hr, hr7, hrd⟩, hno, hyes⟩ := hv
        refine go_lst (go_nil ⟨by decide, fun l2 hl2 => ?_⟩)
        have e8 : Ex H7 (upd H7 l2 (.lst [])) := Ex.new hl2
        refine ⟨_, _, .lst (sq_of (e8 _ _ hr7)) (dpa_ex e8 hrd), .lst (sq_of upd_same) .nil, sh_tupsL hs, sh_tupsL [], go_nil (.inr ⟨_, rfl, ?_⟩)⟩
        rw [eqv_nilG]
        have hl8 := (e7.trans e8) _ _ (show (upd H5 l (.lst [.str "no", .str "yes"])) l = some (.lst [.str "no", .str "yes"]) from upd_same)
        have e58 := (e6.trans e7).trans e8
        rcases hw with ⟨rfl, hnh⟩ | ⟨rfl, hh⟩
        · have : hs = [] := hno hnh
          subst this
          exact ix_l (sq_of hl8) (v := .str "yes") rfl (q5 _ e58)
        · have hne : hs ≠ [] := hyes ⟨ks, hh⟩
          have hd : decide ((hs.map fun l => PyData.tuple (l.map PyData.int)) = []) = false := decide_eq_false fun z => hne (List.map_eq_nil_iff.mp z)
          rw [hd]
          exact ix_l (sq_of hl8) (v := .str "no") rfl (q5 _ e58)
end
end Tr
namespace Tr
open PySem PySem.Spec PyProof.Rows L2 Evl StX
section
variable {P : Program} {w : World} {K : PySem.W.Frag} {mg : Str → Option Value} {h : Heap}
theorem bt_of (X : K.In h) (G : h.Ns mainGlobals mg) (c : He.SaysD fa fn K) : Bt mg := ⟨He.free_ok X G (c.fact 56), He.free_ok X G (c.fact 57), He.free_ok X G (c.fact 58), He.free_ok X G (c.fact 59), He.free_ok X G (c.fact 60), He.free_ok X G (c.fact 61), He.free_ok X G (c.fact 62), He.free_ok X G (c.fact 63), He.free_ok X G (c.fact 64), He.free_ok X G (c.fact 65), He.free_ok X G (c.fact 66), He.free_ok X G (c.fact 67), He.free_ok X G (c.fact 68), He.free_ok X G (c.fact 69), He.free_ok X G (c.fact 70)⟩
theorem at_is_integer (X : K.In h) (G : h.Ns mainGlobals mg) (c : He.SaysD fa fn K) : DefAt K mg "is_integer" 6 := by
  obtain ⟨fd, F⟩ := c.def_ 0
  exact ⟨_, fd, F, He.glo_ok X G (c.fact 0)⟩
theorem at_is_integer_tuple (X : K.In h) (G : h.Ns mainGlobals mg) (c : He.SaysD fa fn K) : DefAt K mg "is_integer_tuple" 7 := by
  obtain ⟨fd, F⟩ := c.def_ 1
  exact ⟨_, fd, F, He.glo_ok X G (c.fact 1)⟩
theorem at_pair_of (X : K.In h) (G : h.Ns mainGlobals mg) (c : He.SaysD fa fn K) : DefAt K mg "pair_of" 10 := by
  obtain ⟨fd, F⟩ := c.def_ 2
  exact ⟨_, fd, F, He.glo_ok X G (c.fact 2)⟩
theorem at_are_neighbours (X : K.In h) (G : h.Ns mainGlobals mg) (c : He.SaysD fa fn K) : DefAt K mg "are_neighbours" 12 := by
  obtain ⟨fd, F⟩ := c.def_ 3
  exact ⟨_, fd, F, He.glo_ok X G (c.fact 3)⟩
theorem at_neighbours (X : K.In h) (G : h.Ns mainGlobals mg) (c : He.SaysD fa fn K) : DefAt K mg "neighbours" 13 := by
  obtain ⟨fd, F⟩ := c.def_ 4
  exact ⟨_, fd, F, He.glo_ok X G (c.fact 4)⟩
theorem at_is_vertex_tuple (X : K.In h) (G : h.Ns mainGlobals mg) (c : He.SaysD fa fn K) : DefAt K mg "is_vertex_tuple" 23 := by
  obtain ⟨fd, F⟩ := c.def_ 5
  exact ⟨_, fd, F, He.glo_ok X G (c.fact 5)⟩
theorem at_is_order (X : K.In h) (G : h.Ns mainGlobals mg) (c : He.SaysD fa fn K) : DefAt K mg "is_order" 25 := by
  obtain ⟨fd, F⟩ := c.def_ 6
  exact ⟨_, fd, F, He.glo_ok X G (c.fact 6)⟩
theorem at_is_clique (X : K.In h) (G : h.Ns mainGlobals mg) (c : He.SaysD fa fn K) : DefAt K mg "is_clique" 32 := by
  obtain ⟨fd, F⟩ := c.def_ 7
  exact ⟨_, fd, F, He.glo_ok X G (c.fact 7)⟩
theorem at_is_path (X : K.In h) (G : h.Ns mainGlobals mg) (c : He.SaysD fa fn K) : DefAt K mg "is_path" 36 := by
  obtain ⟨fd, F⟩ := c.def_ 8
  exact ⟨_, fd, F, He.glo_ok X G (c.fact 8)⟩
theorem at_is_cycle (X : K.In h) (G : h.Ns mainGlobals mg) (c : He.SaysD fa fn K) : DefAt K mg "is_cycle" 38 := by
  obtain ⟨fd, F⟩ := c.def_ 9
  exact ⟨_, fd, F, He.glo_ok X G (c.fact 9)⟩
theorem at_shortest_path (X : K.In h) (G : h.Ns mainGlobals mg) (c : He.SaysD fa fn K) : DefAt K mg "shortest_path" 39 := by
  obtain ⟨fd, F⟩ := c.def_ 10
  exact ⟨_, fd, F, He.glo_ok X G (c.fact 10)⟩
theorem at_behind (X : K.In h) (G : h.Ns mainGlobals mg) (c : He.SaysD fa fn K) : DefAt K mg "behind" 48 := by
  obtain ⟨fd, F⟩ := c.def_ 11
  exact ⟨_, fd, F, He.glo_ok X G (c.fact 11)⟩
theorem at_has_no_chord (X : K.In h) (G : h.Ns mainGlobals mg) (c : He.SaysD fa fn K) : DefAt K mg "has_no_chord" 72 := by
  obtain ⟨fd, F⟩ := c.def_ 12
  exact ⟨_, fd, F, He.glo_ok X G (c.fact 12)⟩
theorem at_is_hole (X : K.In h) (G : h.Ns mainGlobals mg) (c : He.SaysD fa fn K) : DefAt K mg "is_hole" 73 := by
  obtain ⟨fd, F⟩ := c.def_ 13
  exact ⟨_, fd, F, He.glo_ok X G (c.fact 13)⟩
theorem at_check_chordal (X : K.In h) (G : h.Ns mainGlobals mg) (c : He.SaysD fa fn K) : DefAt K mg "check_chordal" 74 := by
  obtain ⟨fd, F⟩ := c.def_ 14
  exact ⟨_, fd, F, He.glo_ok X G (c.fact 14)⟩
theorem at_find_hole (X : K.In h) (G : h.Ns mainGlobals mg) (c : He.SaysD fa fn K) : DefAt K mg "find_hole" 88 := by
  obtain ⟨fd, F⟩ := c.def_ 15
  exact ⟨_, fd, F, He.glo_ok X G (c.fact 15)⟩
theorem at_clique_order (X : K.In h) (G : h.Ns mainGlobals mg) (c : He.SaysD fa fn K) : DefAt K mg "clique_order" 89 := by
  obtain ⟨fd, F⟩ := c.def_ 16
  exact ⟨_, fd, F, He.glo_ok X G (c.fact 16)⟩
theorem at_decide_chordal (X : K.In h) (G : h.Ns mainGlobals mg) (c : He.SaysD fa fn K) : DefAt K mg "decide_chordal" 90 := by
  obtain ⟨fd, F⟩ := c.def_ 17
  exact ⟨_, fd, F, He.glo_ok X G (c.fact 17)⟩
theorem at_is_question (X : K.In h) (G : h.Ns mainGlobals mg) (c : He.SaysD fa fn K) : DefAt K mg "is_question" 185 := by
  obtain ⟨fd, F⟩ := c.def_ 18
  exact ⟨_, fd, F, He.glo_ok X G (c.fact 18)⟩
theorem at_check_question (X : K.In h) (G : h.Ns mainGlobals mg) (c : He.SaysD fa fn K) : DefAt K mg "check_question" 186 := by
  obtain ⟨fd, F⟩ := c.def_ 19
  exact ⟨_, fd, F, He.glo_ok X G (c.fact 19)⟩
theorem at_decide_plain (X : K.In h) (G : h.Ns mainGlobals mg) (c : He.SaysD fa fn K) : DefAt K mg "decide_plain" 221 := by
  obtain ⟨fd, F⟩ := c.def_ 20
  exact ⟨_, fd, F, He.glo_ok X G (c.fact 20)⟩
theorem at_decide (X : K.In h) (G : h.Ns mainGlobals mg) (c : He.SaysD fa fn K) : DefAt K mg "decide" 223 := by
  obtain ⟨fd, F⟩ := c.def_ 21
  exact ⟨_, fd, F, He.glo_ok X G (c.fact 21)⟩
theorem at_check_plain (X : K.In h) (G : h.Ns mainGlobals mg) (c : He.SaysD fa fn K) : DefAt K mg "check_plain" 225 := by
  obtain ⟨fd, F⟩ := c.def_ 22
  exact ⟨_, fd, F, He.glo_ok X G (c.fact 22)⟩
theorem at_check (X : K.In h) (G : h.Ns mainGlobals mg) (c : He.SaysD fa fn K) : DefAt K mg "check" 227 := by
  obtain ⟨fd, F⟩ := c.def_ 23
  exact ⟨_, fd, F, He.glo_ok X G (c.fact 23)⟩
theorem at_law_pool (X : K.In h) (G : h.Ns mainGlobals mg) (c : He.SaysD fa fn K) : DefAt K mg "_law_pool" 229 := by
  obtain ⟨fd, F⟩ := c.def_ 24
  exact ⟨_, fd, F, He.glo_ok X G (c.fact 24)⟩
theorem at_law_spread (X : K.In h) (G : h.Ns mainGlobals mg) (c : He.SaysD fa fn K) : DefAt K mg "_law_spread" 230 := by
  obtain ⟨fd, F⟩ := c.def_ 25
  exact ⟨_, fd, F, He.glo_ok X G (c.fact 25)⟩
theorem at_law_draw (X : K.In h) (G : h.Ns mainGlobals mg) (c : He.SaysD fa fn K) : DefAt K mg "_law_draw" 231 := by
  obtain ⟨fd, F⟩ := c.def_ 26
  exact ⟨_, fd, F, He.glo_ok X G (c.fact 26)⟩
theorem at_law_is_int (X : K.In h) (G : h.Ns mainGlobals mg) (c : He.SaysD fa fn K) : DefAt K mg "_law_is_int" 232 := by
  obtain ⟨fd, F⟩ := c.def_ 27
  exact ⟨_, fd, F, He.glo_ok X G (c.fact 27)⟩
theorem at_law_distinct (X : K.In h) (G : h.Ns mainGlobals mg) (c : He.SaysD fa fn K) : DefAt K mg "_law_distinct" 233 := by
  obtain ⟨fd, F⟩ := c.def_ 28
  exact ⟨_, fd, F, He.glo_ok X G (c.fact 28)⟩
theorem at_law_pairs (X : K.In h) (G : h.Ns mainGlobals mg) (c : He.SaysD fa fn K) : DefAt K mg "_law_pairs" 234 := by
  obtain ⟨fd, F⟩ := c.def_ 29
  exact ⟨_, fd, F, He.glo_ok X G (c.fact 29)⟩
theorem at_law_of (X : K.In h) (G : h.Ns mainGlobals mg) (c : He.SaysD fa fn K) : DefAt K mg "_law_of" 235 := by
  obtain ⟨fd, F⟩ := c.def_ 30
  exact ⟨_, fd, F, He.glo_ok X G (c.fact 30)⟩
theorem at_law_met (X : K.In h) (G : h.Ns mainGlobals mg) (c : He.SaysD fa fn K) : DefAt K mg "_law_met" 236 := by
  obtain ⟨fd, F⟩ := c.def_ 31
  exact ⟨_, fd, F, He.glo_ok X G (c.fact 31)⟩
theorem at_law_near (X : K.In h) (G : h.Ns mainGlobals mg) (c : He.SaysD fa fn K) : DefAt K mg "_law_near" 237 := by
  obtain ⟨fd, F⟩ := c.def_ 32
  exact ⟨_, fd, F, He.glo_ok X G (c.fact 32)⟩
theorem at_law_shuffled (X : K.In h) (G : h.Ns mainGlobals mg) (c : He.SaysD fa fn K) : DefAt K mg "_law_shuffled" 238 := by
  obtain ⟨fd, F⟩ := c.def_ 33
  exact ⟨_, fd, F, He.glo_ok X G (c.fact 33)⟩
theorem at_law_moved (X : K.In h) (G : h.Ns mainGlobals mg) (c : He.SaysD fa fn K) : DefAt K mg "_law_moved" 239 := by
  obtain ⟨fd, F⟩ := c.def_ 34
  exact ⟨_, fd, F, He.glo_ok X G (c.fact 34)⟩
theorem at_law_other (X : K.In h) (G : h.Ns mainGlobals mg) (c : He.SaysD fa fn K) : DefAt K mg "_law_other" 240 := by
  obtain ⟨fd, F⟩ := c.def_ 35
  exact ⟨_, fd, F, He.glo_ok X G (c.fact 35)⟩
theorem at_law_random_graph (X : K.In h) (G : h.Ns mainGlobals mg) (c : He.SaysD fa fn K) : DefAt K mg "_law_random_graph" 241 := by
  obtain ⟨fd, F⟩ := c.def_ 36
  exact ⟨_, fd, F, He.glo_ok X G (c.fact 36)⟩
theorem at_law_interval_rows (X : K.In h) (G : h.Ns mainGlobals mg) (c : He.SaysD fa fn K) : DefAt K mg "_law_interval_rows" 242 := by
  obtain ⟨fd, F⟩ := c.def_ 37
  exact ⟨_, fd, F, He.glo_ok X G (c.fact 37)⟩
theorem at_law_interval_graph (X : K.In h) (G : h.Ns mainGlobals mg) (c : He.SaysD fa fn K) : DefAt K mg "_law_interval_graph" 243 := by
  obtain ⟨fd, F⟩ := c.def_ 38
  exact ⟨_, fd, F, He.glo_ok X G (c.fact 38)⟩
theorem at_law_turned_graph (X : K.In h) (G : h.Ns mainGlobals mg) (c : He.SaysD fa fn K) : DefAt K mg "_law_turned_graph" 244 := by
  obtain ⟨fd, F⟩ := c.def_ 39
  exact ⟨_, fd, F, He.glo_ok X G (c.fact 39)⟩
theorem at_law_ordered_graph (X : K.In h) (G : h.Ns mainGlobals mg) (c : He.SaysD fa fn K) : DefAt K mg "_law_ordered_graph" 245 := by
  obtain ⟨fd, F⟩ := c.def_ 40
  exact ⟨_, fd, F, He.glo_ok X G (c.fact 40)⟩
theorem at_law_clique_graph (X : K.In h) (G : h.Ns mainGlobals mg) (c : He.SaysD fa fn K) : DefAt K mg "_law_clique_graph" 246 := by
  obtain ⟨fd, F⟩ := c.def_ 41
  exact ⟨_, fd, F, He.glo_ok X G (c.fact 41)⟩
theorem at_law_drawn_tree (X : K.In h) (G : h.Ns mainGlobals mg) (c : He.SaysD fa fn K) : DefAt K mg "_law_drawn_tree" 247 := by
  obtain ⟨fd, F⟩ := c.def_ 42
  exact ⟨_, fd, F, He.glo_ok X G (c.fact 42)⟩
theorem at_law_leaves (X : K.In h) (G : h.Ns mainGlobals mg) (c : He.SaysD fa fn K) : DefAt K mg "_law_leaves" 248 := by
  obtain ⟨fd, F⟩ := c.def_ 43
  exact ⟨_, fd, F, He.glo_ok X G (c.fact 43)⟩
theorem at_law_tree_pairs (X : K.In h) (G : h.Ns mainGlobals mg) (c : He.SaysD fa fn K) : DefAt K mg "_law_tree_pairs" 249 := by
  obtain ⟨fd, F⟩ := c.def_ 44
  exact ⟨_, fd, F, He.glo_ok X G (c.fact 44)⟩
theorem at_law_graph (X : K.In h) (G : h.Ns mainGlobals mg) (c : He.SaysD fa fn K) : DefAt K mg "_law_graph" 250 := by
  obtain ⟨fd, F⟩ := c.def_ 45
  exact ⟨_, fd, F, He.glo_ok X G (c.fact 45)⟩
theorem at_law_subsets (X : K.In h) (G : h.Ns mainGlobals mg) (c : He.SaysD fa fn K) : DefAt K mg "_law_subsets" 251 := by
  obtain ⟨fd, F⟩ := c.def_ 46
  exact ⟨_, fd, F, He.glo_ok X G (c.fact 46)⟩
theorem at_law_is_row (X : K.In h) (G : h.Ns mainGlobals mg) (c : He.SaysD fa fn K) : DefAt K mg "_law_is_row" 252 := by
  obtain ⟨fd, F⟩ := c.def_ 47
  exact ⟨_, fd, F, He.glo_ok X G (c.fact 47)⟩
theorem at_law_is_way (X : K.In h) (G : h.Ns mainGlobals mg) (c : He.SaysD fa fn K) : DefAt K mg "_law_is_way" 253 := by
  obtain ⟨fd, F⟩ := c.def_ 48
  exact ⟨_, fd, F, He.glo_ok X G (c.fact 48)⟩
theorem at_law_bare (X : K.In h) (G : h.Ns mainGlobals mg) (c : He.SaysD fa fn K) : DefAt K mg "_law_bare" 254 := by
  obtain ⟨fd, F⟩ := c.def_ 49
  exact ⟨_, fd, F, He.glo_ok X G (c.fact 49)⟩
theorem at_law_is_hole (X : K.In h) (G : h.Ns mainGlobals mg) (c : He.SaysD fa fn K) : DefAt K mg "_law_is_hole" 255 := by
  obtain ⟨fd, F⟩ := c.def_ 50
  exact ⟨_, fd, F, He.glo_ok X G (c.fact 50)⟩
theorem at_law_ring_of (X : K.In h) (G : h.Ns mainGlobals mg) (c : He.SaysD fa fn K) : DefAt K mg "_law_ring_of" 256 := by
  obtain ⟨fd, F⟩ := c.def_ 51
  exact ⟨_, fd, F, He.glo_ok X G (c.fact 51)⟩
theorem at_law_holes (X : K.In h) (G : h.Ns mainGlobals mg) (c : He.SaysD fa fn K) : DefAt K mg "_law_holes" 257 := by
  obtain ⟨fd, F⟩ := c.def_ 52
  exact ⟨_, fd, F, He.glo_ok X G (c.fact 52)⟩
theorem at_law_chordal_right (X : K.In h) (G : h.Ns mainGlobals mg) (c : He.SaysD fa fn K) : DefAt K mg "_law_chordal_right" 258 := by
  obtain ⟨fd, F⟩ := c.def_ 53
  exact ⟨_, fd, F, He.glo_ok X G (c.fact 53)⟩
theorem at_law_ringed (X : K.In h) (G : h.Ns mainGlobals mg) (c : He.SaysD fa fn K) : DefAt K mg "_law_ringed" 259 := by
  obtain ⟨fd, F⟩ := c.def_ 54
  exact ⟨_, fd, F, He.glo_ok X G (c.fact 54)⟩
theorem kinds_of (c : He.tupB K "PLAIN_KINDS" kindsD = true) : ∀ H, SqT K H (He.ga K "PLAIN_KINDS") kindsV := fun H => He.tupB_ok c H
theorem walk_law (X : K.In h) (G : h.Ns mainGlobals mg) (c : SaysP K) (base : Heap) {f : Addr} {fd : FuncData} (F : FunD K "law" "law" (defArgs (top 260)) (defBody (top 260)) (defScope (top 260)) [] [] f fd) : FnOk P w K mg base CX0 18 f fd ["_law_script"] (sp_law K) := by
  obtain ⟨c1, c2⟩ := c
  have B := bt_of X G c1
  have hk := kinds_of c2
  have hkinds : ∃ u, mg "PLAIN_KINDS" = some u ∧ RelV (.ref (He.ga K "PLAIN_KINDS")) u := ⟨_, He.glo_ok X G (c1.fact 71), rfl⟩
  have c_is_integer : Ca P w K mg base 1 "is_integer" (sp_is_integer K) := ok_is_integer (base := base) (at_is_integer X G c1) B 
  have c_law_is_int : Ca P w K mg base 1 "_law_is_int" (sp_law_is_int K) := ok_law_is_int (base := base) (at_law_is_int X G c1) B 
  have c_is_integer_tuple : Ca P w K mg base 2 "is_integer_tuple" (sp_is_integer_tuple K) := ok_is_integer_tuple (base := base) (at_is_integer_tuple X G c1) B c_is_integer
  have c_pair_of : Ca P w K mg base 1 "pair_of" (sp_pair_of K) := ok_pair_of (base := base) (at_pair_of X G c1) B 
  have c_are_neighbours : Ca P w K mg base 2 "are_neighbours" (sp_are_neighbours K) := ok_are_neighbours (base := base) (at_are_neighbours X G c1) B c_pair_of
  have c_law_met : Ca P w K mg base 1 "_law_met" (sp_law_met K) := ok_law_met (base := base) (at_law_met X G c1) B 
  have c_neighbours : Ca P w K mg base 1 "neighbours" (sp_neighbours K) := ok_neighbours (base := base) (at_neighbours X G c1) B 
  have c_law_near : Ca P w K mg base 2 "_law_near" (sp_law_near K) := ok_law_near (base := base) (at_law_near X G c1) B c_law_met
  have c_is_clique : Ca P w K mg base 3 "is_clique" (sp_is_clique K) := ok_is_clique (base := base) (at_is_clique X G c1) B c_are_neighbours
  have c_behind : Ca P w K mg base 2 "behind" (sp_behind K) := ok_behind (base := base) (at_behind X G c1) B c_neighbours
  have c_is_vertex_tuple : Ca P w K mg base 3 "is_vertex_tuple" (sp_is_vertex_tuple K) := ok_is_vertex_tuple (base := base) (at_is_vertex_tuple X G c1) B c_is_integer_tuple
  have c_is_order : Ca P w K mg base 4 "is_order" (sp_is_order K) := ok_is_order (base := base) (at_is_order X G c1) B c_is_vertex_tuple
  have c_is_path : Ca P w K mg base 4 "is_path" (sp_is_path K) := ok_is_path (base := base) (at_is_path X G c1) B c_is_vertex_tuple c_are_neighbours
  have c_is_cycle : Ca P w K mg base 5 "is_cycle" (sp_is_cycle K) := ok_is_cycle (base := base) (at_is_cycle X G c1) B c_are_neighbours c_is_path
  have c_has_no_chord : Ca P w K mg base 3 "has_no_chord" (sp_has_no_chord K) := ok_has_no_chord (base := base) (at_has_no_chord X G c1) B c_are_neighbours
  have c_is_hole : Ca P w K mg base 6 "is_hole" (sp_is_hole K) := ok_is_hole (base := base) (at_is_hole X G c1) B c_has_no_chord c_is_cycle
  have c_check_chordal : Ca P w K mg base 7 "check_chordal" (sp_check_chordal K) := ok_check_chordal (base := base) (at_check_chordal X G c1) B c_is_hole c_is_order c_is_clique c_behind
  have c_shortest_path : Ca P w K mg base 2 "shortest_path" (sp_shortest_path K) := ok_shortest_path (base := base) (at_shortest_path X G c1) B c_neighbours
  have c_find_hole : Ca P w K mg base 3 "find_hole" (sp_find_hole K) := ok_find_hole (base := base) (at_find_hole X G c1) B c_neighbours c_are_neighbours c_shortest_path
  have c_clique_order : Ca P w K mg base 4 "clique_order" (sp_clique_order K) := ok_clique_order (base := base) (at_clique_order X G c1) B c_is_clique c_neighbours
  have c_decide_chordal : Ca P w K mg base 5 "decide_chordal" (sp_decide_chordal K) := ok_decide_chordal (base := base) (at_decide_chordal X G c1) B c_find_hole c_clique_order
  have c_is_question : Ca P w K mg base 1 "is_question" (sp_is_question K) := ok_is_question (base := base) (at_is_question X G c1) B  hkinds hk
  have c_check_question : Ca P w K mg base 2 "check_question" (sp_check_question K) := ok_check_question (base := base) (at_check_question X G c1) B c_is_question
  have c_decide_plain : Ca P w K mg base 6 "decide_plain" (sp_decide_plain K) := ok_decide_plain (base := base) (at_decide_plain X G c1) B c_decide_chordal
  have c_decide : Ca P w K mg base 7 "decide" (sp_decide K) := ok_decide (base := base) (at_decide X G c1) B c_check_question c_decide_plain hkinds hk
  have c_check_plain : Ca P w K mg base 8 "check_plain" (sp_check_plain K) := ok_check_plain (base := base) (at_check_plain X G c1) B c_check_chordal
  have c_check : Ca P w K mg base 9 "check" (sp_check K) := ok_check (base := base) (at_check X G c1) B c_check_question c_check_plain hkinds hk
  have c_law_distinct : Ca P w K mg base 1 "_law_distinct" (sp_law_distinct K) := ok_law_distinct (base := base) (at_law_distinct X G c1) B 
  have c_law_pairs : Ca P w K mg base 1 "_law_pairs" (sp_law_pairs K) := ok_law_pairs (base := base) (at_law_pairs X G c1) B 
  have c_law_of : Ca P w K mg base 2 "_law_of" (sp_law_of K) := ok_law_of (base := base) (at_law_of X G c1) B c_law_distinct
  have c_law_moved : Ca P w K mg base 3 "_law_moved" (sp_law_moved K) := ok_law_moved (base := base) (at_law_moved X G c1) B c_law_of
  have c_law_other : Ca P w K mg base 2 "_law_other" (sp_law_other K) := ok_law_other (base := base) (at_law_other X G c1) B c_law_pairs
  have c_law_interval_graph : Ca P w K mg base 2 "_law_interval_graph" (sp_law_interval_graph K) := ok_law_interval_graph (base := base) (at_law_interval_graph X G c1) B c_law_pairs
  have c_law_turned_graph : Ca P w K mg base 2 "_law_turned_graph" (sp_law_turned_graph K) := ok_law_turned_graph (base := base) (at_law_turned_graph X G c1) B c_law_pairs
  have c_law_subsets : Ca P w K mg base 1 "_law_subsets" (sp_law_subsets K) := ok_law_subsets (base := base) (at_law_subsets X G c1) B 
  have c_law_is_row : Ca P w K mg base 2 "_law_is_row" (sp_law_is_row K) := ok_law_is_row (base := base) (at_law_is_row X G c1) B c_law_is_int c_law_distinct
  have c_law_is_way : Ca P w K mg base 3 "_law_is_way" (sp_law_is_way K) := ok_law_is_way (base := base) (at_law_is_way X G c1) B c_law_is_row c_law_met
  have c_law_bare : Ca P w K mg base 2 "_law_bare" (sp_law_bare K) := ok_law_bare (base := base) (at_law_bare X G c1) B c_law_pairs c_law_met
  have c_law_is_hole : Ca P w K mg base 4 "_law_is_hole" (sp_law_is_hole K) := ok_law_is_hole (base := base) (at_law_is_hole X G c1) B c_law_met c_law_is_way c_law_bare
  have c_law_ring_of : Ca P w K mg base 2 "_law_ring_of" (sp_law_ring_of K) := ok_law_ring_of (base := base) (at_law_ring_of X G c1) B c_law_met
  have c_law_holes : Ca P w K mg base 5 "_law_holes" (sp_law_holes K) := ok_law_holes (base := base) (at_law_holes X G c1) B c_law_subsets c_law_near c_law_ring_of c_law_is_hole
  have c_law_chordal_right : Ca P w K mg base 5 "_law_chordal_right" (sp_law_chordal_right K) := ok_law_chordal_right (base := base) (at_law_chordal_right X G c1) B c_law_is_hole c_law_is_row c_law_met c_law_pairs
  have c_law_leaves : Ca P w K mg base 8 "_law_leaves" (sp_law_leaves K) := ok_law_leavesD (base := base) (at_law_leaves X G c1) B  7
  have c_law_tree_pairs : Ca P w K mg base 16 "_law_tree_pairs" (sp_law_tree_pairs K) := ok_law_tree_pairsD (base := base) (at_law_tree_pairs X G c1) B c_law_leaves 7
  have c_law_spread : Ca P w K mg base 1 "_law_spread" (sp_law_spread K) := ok_law_spread (base := base) (at_law_spread X G c1) B 
  have c_law_pool : Ca P w K mg base 1 "_law_pool" (sp_law_pool K) := ok_law_pool (base := base) (at_law_pool X G c1) B 
  have c_law_draw : Ca P w K mg base 2 "_law_draw" (sp_law_draw K) := ok_law_draw (base := base) (at_law_draw X G c1) B c_law_spread
  have c_law_shuffled : Ca P w K mg base 3 "_law_shuffled" (sp_law_shuffled K) := ok_law_shuffled (base := base) (at_law_shuffled X G c1) B c_law_draw
  have c_law_interval_rows : Ca P w K mg base 3 "_law_interval_rows" (sp_law_interval_rows K) := ok_law_interval_rows (base := base) (at_law_interval_rows X G c1) B c_law_draw
  have c_law_random_graph : Ca P w K mg base 3 "_law_random_graph" (sp_law_random_graph K) := ok_law_random_graph (base := base) (at_law_random_graph X G c1) B c_law_draw c_law_pairs
  have c_law_ringed : Ca P w K mg base 3 "_law_ringed" (sp_law_ringed K) := ok_law_ringed (base := base) (at_law_ringed X G c1) B c_law_draw c_law_of
  have c_law_clique_graph : Ca P w K mg base 3 "_law_clique_graph" (sp_law_clique_graph K) := ok_law_clique_graph (base := base) (at_law_clique_graph X G c1) B c_law_draw
  have c_law_ordered_graph : Ca P w K mg base 3 "_law_ordered_graph" (sp_law_ordered_graph K) := ok_law_ordered_graph (base := base) (at_law_ordered_graph X G c1) B c_law_draw c_law_pairs
  have c_law_drawn_tree : Ca P w K mg base 3 "_law_drawn_tree" (sp_law_drawn_tree K) := ok_law_drawn_tree (base := base) (at_law_drawn_tree X G c1) B c_law_draw
  have c_law_graph : Ca P w K mg base 17 "_law_graph" (sp_law_graph K) := ok_law_graph (base := base) (at_law_graph X G c1) B c_law_draw c_law_interval_graph c_law_interval_rows c_law_turned_graph c_law_shuffled c_law_ordered_graph c_law_clique_graph c_law_of c_law_tree_pairs c_law_drawn_tree c_law_ringed c_law_other c_law_random_graph c_law_moved
  exact ok_law (base := base) F B c_law_pool c_law_graph c_law_draw c_law_clique_graph c_decide c_law_holes c_check c_law_chordal_right
end
end Tr

open PySem PySem.W PySem.Calls PyProof.Rows
theorem PySem.Challenge.cw_trellis_k34_chordal_graphs_holds : PySem.Challenge.rw_trellis_k34_chordal_graphs.Holds := by
  w_on
  refine Tr.first0 fun said => ?_
  refine holds_open (r := OpenLaw.row PySem.Challenge.rw_trellis_k34_chordal_graphs) (q := Tr.Hd.qv) (loose := Tr.names) (XP := XL Tr.Hd.qv []) (YP := Tr.hk.says) (d := HandSHeadRun.topDef Tr.Hd.P0 260) (kwd := []) Tr.Hd.leftT Tr.hk.of Tr.hk.keeps (fun s z => xl_of s (Bool.and_eq_true_iff.mp z).1) XL.keeps (by kernel_rfl) (by kernel_rfl) (by kernel_rfl) (fun s z => recFacts_of (Bool.and_eq_true_iff.mp z).2) (by rfl) said (by decide +kernel) Tr.Hd.bareM ?hw ?hc
  case hw => w_witness2
  case hc =>
    refine L2.walk_ofE (l := PySem.Challenge.rw_trellis_k34_chordal_graphs) (n := 63) (k := 18) (x := "_law_script") (CX := L2.CX0) rfl (by decide) (by kernel_rfl) ⟨rfl, by decide, by decide⟩ ?F (fun _ _ _ _ z => z)
    intro w mg fa h Y G hmg0
    obtain ⟨K, KX, c⟩ := Y
    have hmg : mg ("law" : PySem.Str) = some (.ref fa) := by
      have e : (HandSHeadRun.topDef Tr.Hd.P0 260).name = ("law" : PySem.Str) := by kernel_rfl
      rw [← e]
      exact hmg0
    obtain ⟨fd, F⟩ := He.SaysD.def_ c.1 55
    have e := hmg.symm.trans (He.glo_ok KX G (He.SaysD.fact c.1 55))
    cases e
    have b := L2.FunD.bindsA (ps := ["_law_script"]) F fun _ _ _ _ _ _ us hl => match us, hl with | [_], _ => rfl
    exact ⟨K, fd, Tr.sp_law K, KX, fun s v => b s [v] rfl, fun H a ns hl _ hS => ⟨a, ns, rfl, hS, fun _ => rfl⟩, fun base _ _ => Tr.walk_law KX G c base F⟩
