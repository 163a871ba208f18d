import PyProof.Rows.All
import Wide.All
import OpenK.AllK
import Wide.FinOn
import KE.KStateDown
import Lean
import HandS.ForMost
import HandS.More
import HandS.WordsExc
import HandS.Defaults
import HandS.Head0
import HandS.Head1
import HandS.Head2
import HandS.HeadEnd
import HandS.HeadHook1
import HandS.HeadHook2
import HandS.Flow
import HandS.Style
import HandS.IsInst
import HandS.Deep
import HandS.Zip
import HandS.Conv
import HandS.TupLen
import HandS.Walk
import PySem.Challenge.RW_handlepairs_k05_whole_corners_by_own_wal
import KE.GoesEnum
import KE.KDictOf
import KE.KDictCopyH
import KE.KEqDict
import HandS.Small
set_option Elab.async false
set_option linter.all false
set_option maxRecDepth 100000
set_option maxHeartbeats 4000000
/-! the text by places; what is wanted of the program's top (printed by wip/gen_head.py) -/
namespace Hp5
open PySem PySem.Spec PyProof.Rows L2
def top (i : Nat) : Stmt := PySem.Challenge.pw_handlepairs_k05_whole_corners_by_own_wal.main.body.getD i (.Pass ⟨0, 0, 0, 0⟩)
abbrev FnP (K : PySem.W.Frag) (x : Str) (st : Stmt) (f : Addr) (fd : FuncData) : Prop := FunD K x x (defArgs st) (defBody st) (defScope st) [] [] f fd
abbrev s_is_number : Stmt := top 6
abbrev s_is_within : Stmt := top 7
abbrev s_is_long : Stmt := top 8
abbrev s_tupled : Stmt := top 9
abbrev s_is_side : Stmt := top 11
abbrev s_is_crossing_of : Stmt := top 12
abbrev s_hang_together : Stmt := top 13
abbrev s_is_skin : Stmt := top 14
abbrev s_sure_skin : Stmt := top 15
abbrev s_sure_field : Stmt := top 16
abbrev s_sure_edge : Stmt := top 17
abbrev s_edges_in : Stmt := top 18
abbrev s_numbers_in : Stmt := top 19
abbrev s_corners_in : Stmt := top 21
abbrev s_corner_numbers : Stmt := top 22
abbrev s_all_ends : Stmt := top 23
abbrev s_sure_corner : Stmt := top 24
abbrev s_corners : Stmt := top 25
abbrev s_corner_of : Stmt := top 26
abbrev s_corners_at : Stmt := top 27
abbrev s_ends_of : Stmt := top 28
abbrev s_corner_sizes : Stmt := top 29
abbrev s_edges_round : Stmt := top 30
abbrev s_l_box : Stmt := top 32
abbrev s_l_take : Stmt := top 33
abbrev s_l_cells : Stmt := top 34
abbrev s_l_of : Stmt := top 35
abbrev s_l_pick : Stmt := top 36
abbrev s_l_lists : Stmt := top 37
abbrev s_l_same : Stmt := top 38
abbrev s_l_edges : Stmt := top 39
abbrev s_l_names : Stmt := top 40
abbrev s_l_corners : Stmt := top 41
abbrev s_l_ends : Stmt := top 42
abbrev s_l_square : Stmt := top 43
abbrev s_l_is_number : Stmt := top 44
abbrev s_l_is_gate : Stmt := top 45
abbrev s_l_is_sewn : Stmt := top 46
abbrev s_l_lots_of_ends : Stmt := top 47
abbrev s_l_any_hide : Stmt := top 48
abbrev s_l_sewn_so : Stmt := top 49
abbrev s_l_hand_right : Stmt := top 50
abbrev s_l_right : Stmt := top 51
abbrev s_law : Stmt := top 52
/-- a def of the text as the top leaves it: its function, its global, how its arguments bind -/
structure HasD (K : PySem.W.Frag) (mg : Str → Option Value) (x : Str) (st : Stmt) (ps : List Str) : Prop where
  fn : ∃ fd, FnP K x st (He.ga K x) fd ∧ Binds K fd ps []
  gl : mg x = some (.ref (He.ga K x))
structure Tx (K : PySem.W.Frag) (mg : Str → Option Value) : Prop where
  d_is_number : HasD K mg "is_number" s_is_number ["thing"]
  d_is_within : HasD K mg "is_within" s_is_within ["thing", "least", "most"]
  d_is_long : HasD K mg "is_long" s_is_long ["thing", "length"]
  d_tupled : HasD K mg "tupled" s_tupled ["value"]
  d_is_side : HasD K mg "is_side" s_is_side ["thing"]
  d_is_crossing_of : HasD K mg "is_crossing_of" s_is_crossing_of ["many", "thing"]
  d_hang_together : HasD K mg "hang_together" s_hang_together ["skin"]
  d_is_skin : HasD K mg "is_skin" s_is_skin ["thing"]
  d_sure_skin : HasD K mg "sure_skin" s_sure_skin ["skin"]
  d_sure_field : HasD K mg "sure_field" s_sure_field ["skin", "field"]
  d_sure_edge : HasD K mg "sure_edge" s_sure_edge ["skin", "edge"]
  d_edges_in : HasD K mg "edges_in" s_edges_in ["skin"]
  d_numbers_in : HasD K mg "numbers_in" s_numbers_in ["skin"]
  d_corners_in : HasD K mg "corners_in" s_corners_in ["skin"]
  d_corner_numbers : HasD K mg "corner_numbers" s_corner_numbers ["skin"]
  d_all_ends : HasD K mg "all_ends" s_all_ends ["skin"]
  d_sure_corner : HasD K mg "sure_corner" s_sure_corner ["skin", "corner"]
  d_corners : HasD K mg "corners" s_corners ["skin"]
  d_corner_of : HasD K mg "corner_of" s_corner_of ["skin", "field", "side"]
  d_corners_at : HasD K mg "corners_at" s_corners_at ["skin", "field"]
  d_ends_of : HasD K mg "ends_of" s_ends_of ["skin", "edge"]
  d_corner_sizes : HasD K mg "corner_sizes" s_corner_sizes ["skin"]
  d_edges_round : HasD K mg "edges_round" s_edges_round ["skin", "corner"]
  d_l_box : HasD K mg "_law_box" s_l_box ["_law_script", "_law_k"]
  d_l_take : HasD K mg "_law_take" s_l_take ["_law_tin", "_law_below_so"]
  d_l_cells : HasD K mg "_law_cells" s_l_cells ["_law_script", "_law_most_so"]
  d_l_of : HasD K mg "_law_of" s_l_of ["_law_tin", "_law_goods_so"]
  d_l_pick : HasD K mg "_law_pick" s_l_pick ["_law_tin", "_law_goods_so", "_law_count_so"]
  d_l_lists : HasD K mg "_law_lists" s_l_lists ["_law_matter"]
  d_l_same : HasD K mg "_law_same" s_l_same ["_law_got", "_law_due"]
  d_l_edges : HasD K mg "_law_edges" s_l_edges ["_law_hide"]
  d_l_names : HasD K mg "_law_names" s_l_names ["_law_hide"]
  d_l_corners : HasD K mg "_law_corners" s_l_corners ["_law_hide"]
  d_l_ends : HasD K mg "_law_ends" s_l_ends ["_law_hide"]
  d_l_square : HasD K mg "_law_square" s_l_square ["_law_wide_so", "_law_high_so"]
  d_l_is_number : HasD K mg "_law_is_number" s_l_is_number ["_law_own"]
  d_l_is_gate : HasD K mg "_law_is_gate" s_l_is_gate ["_law_matter", "_law_many_so"]
  d_l_is_sewn : HasD K mg "_law_is_sewn" s_l_is_sewn ["_law_matter"]
  d_l_lots_of_ends : HasD K mg "_law_lots_of_ends" s_l_lots_of_ends ["_law_hide"]
  d_l_any_hide : HasD K mg "_law_any_hide" s_l_any_hide ["_law_tin", "_law_most_so"]
  d_l_sewn_so : HasD K mg "_law_sewn_so" s_l_sewn_so ["_law_tin", "_law_many_so"]
  d_l_hand_right : HasD K mg "_law_hand_right" s_l_hand_right []
  d_l_right : HasD K mg "_law_right" s_l_right ["_law_tin"]
  d_law : HasD K mg "law" s_law ["_law_script"]
  m_len : mg "len" = none
  m_isinstance : mg "isinstance" = none
  m_tuple : mg "tuple" = none
  m_list : mg "list" = none
  m_all : mg "all" = none
  m_enumerate : mg "enumerate" = none
  m_range : mg "range" = none
  m_zip : mg "zip" = none
  m_min : mg "min" = none
  m_abs : mg "abs" = none
  m_int : mg "int" = none
  m_bool : mg "bool" = none
  m_str : mg "str" = none
  m_set : mg "set" = none
  m_dict : mg "dict" = none
def dd_is_number : He.DefD := ⟨("is_number", none), "is_number", "is_number", defArgs s_is_number, defBody s_is_number, defScope s_is_number, [], []⟩
def dd_is_within : He.DefD := ⟨("is_within", none), "is_within", "is_within", defArgs s_is_within, defBody s_is_within, defScope s_is_within, [], []⟩
def dd_is_long : He.DefD := ⟨("is_long", none), "is_long", "is_long", defArgs s_is_long, defBody s_is_long, defScope s_is_long, [], []⟩
def dd_tupled : He.DefD := ⟨("tupled", none), "tupled", "tupled", defArgs s_tupled, defBody s_tupled, defScope s_tupled, [], []⟩
def dd_is_side : He.DefD := ⟨("is_side", none), "is_side", "is_side", defArgs s_is_side, defBody s_is_side, defScope s_is_side, [], []⟩
def dd_is_crossing_of : He.DefD := ⟨("is_crossing_of", none), "is_crossing_of", "is_crossing_of", defArgs s_is_crossing_of, defBody s_is_crossing_of, defScope s_is_crossing_of, [], []⟩
def dd_hang_together : He.DefD := ⟨("hang_together", none), "hang_together", "hang_together", defArgs s_hang_together, defBody s_hang_together, defScope s_hang_together, [], []⟩
def dd_is_skin : He.DefD := ⟨("is_skin", none), "is_skin", "is_skin", defArgs s_is_skin, defBody s_is_skin, defScope s_is_skin, [], []⟩
def dd_sure_skin : He.DefD := ⟨("sure_skin", none), "sure_skin", "sure_skin", defArgs s_sure_skin, defBody s_sure_skin, defScope s_sure_skin, [], []⟩
def dd_sure_field : He.DefD := ⟨("sure_field", none), "sure_field", "sure_field", defArgs s_sure_field, defBody s_sure_field, defScope s_sure_field, [], []⟩
def dd_sure_edge : He.DefD := ⟨("sure_edge", none), "sure_edge", "sure_edge", defArgs s_sure_edge, defBody s_sure_edge, defScope s_sure_edge, [], []⟩
def dd_edges_in : He.DefD := ⟨("edges_in", none), "edges_in", "edges_in", defArgs s_edges_in, defBody s_edges_in, defScope s_edges_in, [], []⟩
def dd_numbers_in : He.DefD := ⟨("numbers_in", none), "numbers_in", "numbers_in", defArgs s_numbers_in, defBody s_numbers_in, defScope s_numbers_in, [], []⟩
def dd_corners_in : He.DefD := ⟨("corners_in", none), "corners_in", "corners_in", defArgs s_corners_in, defBody s_corners_in, defScope s_corners_in, [], []⟩
def dd_corner_numbers : He.DefD := ⟨("corner_numbers", none), "corner_numbers", "corner_numbers", defArgs s_corner_numbers, defBody s_corner_numbers, defScope s_corner_numbers, [], []⟩
def dd_all_ends : He.DefD := ⟨("all_ends", none), "all_ends", "all_ends", defArgs s_all_ends, defBody s_all_ends, defScope s_all_ends, [], []⟩
def dd_sure_corner : He.DefD := ⟨("sure_corner", none), "sure_corner", "sure_corner", defArgs s_sure_corner, defBody s_sure_corner, defScope s_sure_corner, [], []⟩
def dd_corners : He.DefD := ⟨("corners", none), "corners", "corners", defArgs s_corners, defBody s_corners, defScope s_corners, [], []⟩
def dd_corner_of : He.DefD := ⟨("corner_of", none), "corner_of", "corner_of", defArgs s_corner_of, defBody s_corner_of, defScope s_corner_of, [], []⟩
def dd_corners_at : He.DefD := ⟨("corners_at", none), "corners_at", "corners_at", defArgs s_corners_at, defBody s_corners_at, defScope s_corners_at, [], []⟩
def dd_ends_of : He.DefD := ⟨("ends_of", none), "ends_of", "ends_of", defArgs s_ends_of, defBody s_ends_of, defScope s_ends_of, [], []⟩
def dd_corner_sizes : He.DefD := ⟨("corner_sizes", none), "corner_sizes", "corner_sizes", defArgs s_corner_sizes, defBody s_corner_sizes, defScope s_corner_sizes, [], []⟩
def dd_edges_round : He.DefD := ⟨("edges_round", none), "edges_round", "edges_round", defArgs s_edges_round, defBody s_edges_round, defScope s_edges_round, [], []⟩
def dd_l_box : He.DefD := ⟨("_law_box", none), "_law_box", "_law_box", defArgs s_l_box, defBody s_l_box, defScope s_l_box, [], []⟩
def dd_l_take : He.DefD := ⟨("_law_take", none), "_law_take", "_law_take", defArgs s_l_take, defBody s_l_take, defScope s_l_take, [], []⟩
def dd_l_cells : He.DefD := ⟨("_law_cells", none), "_law_cells", "_law_cells", defArgs s_l_cells, defBody s_l_cells, defScope s_l_cells, [], []⟩
def dd_l_of : He.DefD := ⟨("_law_of", none), "_law_of", "_law_of", defArgs s_l_of, defBody s_l_of, defScope s_l_of, [], []⟩
def dd_l_pick : He.DefD := ⟨("_law_pick", none), "_law_pick", "_law_pick", defArgs s_l_pick, defBody s_l_pick, defScope s_l_pick, [], []⟩
def dd_l_lists : He.DefD := ⟨("_law_lists", none), "_law_lists", "_law_lists", defArgs s_l_lists, defBody s_l_lists, defScope s_l_lists, [], []⟩
def dd_l_same : He.DefD := ⟨("_law_same", none), "_law_same", "_law_same", defArgs s_l_same, defBody s_l_same, defScope s_l_same, [], []⟩
def dd_l_edges : He.DefD := ⟨("_law_edges", none), "_law_edges", "_law_edges", defArgs s_l_edges, defBody s_l_edges, defScope s_l_edges, [], []⟩
def dd_l_names : He.DefD := ⟨("_law_names", none), "_law_names", "_law_names", defArgs s_l_names, defBody s_l_names, defScope s_l_names, [], []⟩
def dd_l_corners : He.DefD := ⟨("_law_corners", none), "_law_corners", "_law_corners", defArgs s_l_corners, defBody s_l_corners, defScope s_l_corners, [], []⟩
def dd_l_ends : He.DefD := ⟨("_law_ends", none), "_law_ends", "_law_ends", defArgs s_l_ends, defBody s_l_ends, defScope s_l_ends, [], []⟩
def dd_l_square : He.DefD := ⟨("_law_square", none), "_law_square", "_law_square", defArgs s_l_square, defBody s_l_square, defScope s_l_square, [], []⟩
def dd_l_is_number : He.DefD := ⟨("_law_is_number", none), "_law_is_number", "_law_is_number", defArgs s_l_is_number, defBody s_l_is_number, defScope s_l_is_number, [], []⟩
def dd_l_is_gate : He.DefD := ⟨("_law_is_gate", none), "_law_is_gate", "_law_is_gate", defArgs s_l_is_gate, defBody s_l_is_gate, defScope s_l_is_gate, [], []⟩
def dd_l_is_sewn : He.DefD := ⟨("_law_is_sewn", none), "_law_is_sewn", "_law_is_sewn", defArgs s_l_is_sewn, defBody s_l_is_sewn, defScope s_l_is_sewn, [], []⟩
def dd_l_lots_of_ends : He.DefD := ⟨("_law_lots_of_ends", none), "_law_lots_of_ends", "_law_lots_of_ends", defArgs s_l_lots_of_ends, defBody s_l_lots_of_ends, defScope s_l_lots_of_ends, [], []⟩
def dd_l_any_hide : He.DefD := ⟨("_law_any_hide", none), "_law_any_hide", "_law_any_hide", defArgs s_l_any_hide, defBody s_l_any_hide, defScope s_l_any_hide, [], []⟩
def dd_l_sewn_so : He.DefD := ⟨("_law_sewn_so", none), "_law_sewn_so", "_law_sewn_so", defArgs s_l_sewn_so, defBody s_l_sewn_so, defScope s_l_sewn_so, [], []⟩
def dd_l_hand_right : He.DefD := ⟨("_law_hand_right", none), "_law_hand_right", "_law_hand_right", defArgs s_l_hand_right, defBody s_l_hand_right, defScope s_l_hand_right, [], []⟩
def dd_l_right : He.DefD := ⟨("_law_right", none), "_law_right", "_law_right", defArgs s_l_right, defBody s_l_right, defScope s_l_right, [], []⟩
def dd_law : He.DefD := ⟨("law", none), "law", "law", defArgs s_law, defBody s_law, defScope s_law, [], []⟩
def fnA : List He.DefD := [dd_is_number, dd_is_within, dd_is_long, dd_tupled, dd_is_side, dd_is_crossing_of, dd_hang_together, dd_is_skin, dd_sure_skin, dd_sure_field, dd_sure_edge, dd_edges_in, dd_numbers_in, dd_corners_in, dd_corner_numbers, dd_all_ends, dd_sure_corner, dd_corners, dd_corner_of, dd_corners_at, dd_ends_of, dd_corner_sizes, dd_edges_round, dd_l_box, dd_l_take, dd_l_cells, dd_l_of, dd_l_pick, dd_l_lists, dd_l_same]
def fnB : List He.DefD := [dd_l_edges, dd_l_names, dd_l_corners, dd_l_ends, dd_l_square, dd_l_is_number, dd_l_is_gate, dd_l_is_sewn, dd_l_lots_of_ends, dd_l_any_hide, dd_l_sewn_so, dd_l_hand_right, dd_l_right, dd_law]
def fn : List He.DefD := fnA ++ fnB
def faA : List He.Fa := [.glo "is_number", .glo "is_within", .glo "is_long", .glo "tupled", .glo "is_side", .glo "is_crossing_of", .glo "hang_together", .glo "is_skin", .glo "sure_skin", .glo "sure_field", .glo "sure_edge", .glo "edges_in", .glo "numbers_in", .glo "corners_in", .glo "corner_numbers", .glo "all_ends", .glo "sure_corner", .glo "corners", .glo "corner_of", .glo "corners_at", .glo "ends_of", .glo "corner_sizes", .glo "edges_round", .glo "_law_box", .glo "_law_take", .glo "_law_cells", .glo "_law_of", .glo "_law_pick", .glo "_law_lists", .glo "_law_same"]
def faB : List He.Fa := [.glo "_law_edges", .glo "_law_names", .glo "_law_corners", .glo "_law_ends", .glo "_law_square", .glo "_law_is_number", .glo "_law_is_gate", .glo "_law_is_sewn", .glo "_law_lots_of_ends", .glo "_law_any_hide", .glo "_law_sewn_so", .glo "_law_hand_right", .glo "_law_right", .glo "law"]
def faC : List He.Fa := [.free "len", .free "isinstance", .free "tuple", .free "list", .free "all", .free "enumerate", .free "range", .free "zip", .free "min", .free "abs", .free "int", .free "bool", .free "str", .free "set", .free "dict"]
def fa : List He.Fa := faA ++ (faB ++ faC)
abbrev Rw : PySem.W.OpenRow := PySem.W.OpenLaw.row PySem.Challenge.rw_handlepairs_k05_whole_corners_by_own_wal
abbrev hk : PySem.W.Hook := He.hookD 4 fa fn
def ob (s : PySem.W.SharedT) : He.AlD := He.obsDG 4 fa fn (HandSHeadRun.getT s)
theorem ob_eq (s : PySem.W.SharedT) : ob s = hk.obs s.abs := He.obsDG_eq (HandSHeadRun.getT_eq s)
def looseA : List Str := ["NoCorner", "NoEdge", "NoField", "Unfit", "is_number", "is_within", "is_long", "tupled", "is_side", "is_crossing_of", "hang_together", "is_skin", "sure_skin", "sure_field", "sure_edge", "edges_in", "numbers_in", "corners_in", "corner_numbers", "all_ends", "sure_corner", "corners", "corner_of", "corners_at", "ends_of", "corner_sizes", "edges_round", "_law_box", "_law_take", "_law_cells"]
def looseB : List Str := ["_law_of", "_law_pick", "_law_lists", "_law_same", "_law_edges", "_law_names", "_law_corners", "_law_ends", "_law_square", "_law_is_number", "_law_is_gate", "_law_is_sewn", "_law_lots_of_ends", "_law_any_hide", "_law_sewn_so", "_law_hand_right", "_law_right"]
def loose : List Str := looseA ++ looseB
theorem tx_of {K : PySem.W.Frag} {h : Heap} {mg : Str → Option Value} (X : K.In h) (G : h.Ns mainGlobals mg) (c : He.SaysD fa fn K) : Tx K mg where
  d_is_number := by
    obtain ⟨fd, F⟩ := c.def_ 0 (d := dd_is_number) rfl
    exact ⟨⟨fd, F, FunD.bindsN F fun _ _ _ _ _ _ us hl => match us, hl with | [_], _ => rfl⟩, He.glo_ok X G (c.fact 0 (f := .glo "is_number") rfl)⟩
  d_is_within := by
    obtain ⟨fd, F⟩ := c.def_ 1 (d := dd_is_within) rfl
    exact ⟨⟨fd, F, FunD.bindsN F fun _ _ _ _ _ _ us hl => match us, hl with | [_, _, _], _ => rfl⟩, He.glo_ok X G (c.fact 1 (f := .glo "is_within") rfl)⟩
  d_is_long := by
    obtain ⟨fd, F⟩ := c.def_ 2 (d := dd_is_long) rfl
    exact ⟨⟨fd, F, FunD.bindsN F fun _ _ _ _ _ _ us hl => match us, hl with | [_, _], _ => rfl⟩, He.glo_ok X G (c.fact 2 (f := .glo "is_long") rfl)⟩
  d_tupled := by
    obtain ⟨fd, F⟩ := c.def_ 3 (d := dd_tupled) rfl
    exact ⟨⟨fd, F, FunD.bindsN F fun _ _ _ _ _ _ us hl => match us, hl with | [_], _ => rfl⟩, He.glo_ok X G (c.fact 3 (f := .glo "tupled") rfl)⟩
  d_is_side := by
    obtain ⟨fd, F⟩ := c.def_ 4 (d := dd_is_side) rfl
    exact ⟨⟨fd, F, FunD.bindsN F fun _ _ _ _ _ _ us hl => match us, hl with | [_], _ => rfl⟩, He.glo_ok X G (c.fact 4 (f := .glo "is_side") rfl)⟩
  d_is_crossing_of := by
    obtain ⟨fd, F⟩ := c.def_ 5 (d := dd_is_crossing_of) rfl
    exact ⟨⟨fd, F, FunD.bindsN F fun _ _ _ _ _ _ us hl => match us, hl with | [_, _], _ => rfl⟩, He.glo_ok X G (c.fact 5 (f := .glo "is_crossing_of") rfl)⟩
  d_hang_together := by
    obtain ⟨fd, F⟩ := c.def_ 6 (d := dd_hang_together) rfl
    exact ⟨⟨fd, F, FunD.bindsN F fun _ _ _ _ _ _ us hl => match us, hl with | [_], _ => rfl⟩, He.glo_ok X G (c.fact 6 (f := .glo "hang_together") rfl)⟩
  d_is_skin := by
    obtain ⟨fd, F⟩ := c.def_ 7 (d := dd_is_skin) rfl
    exact ⟨⟨fd, F, FunD.bindsN F fun _ _ _ _ _ _ us hl => match us, hl with | [_], _ => rfl⟩, He.glo_ok X G (c.fact 7 (f := .glo "is_skin") rfl)⟩
  d_sure_skin := by
    obtain ⟨fd, F⟩ := c.def_ 8 (d := dd_sure_skin) rfl
    exact ⟨⟨fd, F, FunD.bindsN F fun _ _ _ _ _ _ us hl => match us, hl with | [_], _ => rfl⟩, He.glo_ok X G (c.fact 8 (f := .glo "sure_skin") rfl)⟩
  d_sure_field := by
    obtain ⟨fd, F⟩ := c.def_ 9 (d := dd_sure_field) rfl
    exact ⟨⟨fd, F, FunD.bindsN F fun _ _ _ _ _ _ us hl => match us, hl with | [_, _], _ => rfl⟩, He.glo_ok X G (c.fact 9 (f := .glo "sure_field") rfl)⟩
  d_sure_edge := by
    obtain ⟨fd, F⟩ := c.def_ 10 (d := dd_sure_edge) rfl
    exact ⟨⟨fd, F, FunD.bindsN F fun _ _ _ _ _ _ us hl => match us, hl with | [_, _], _ => rfl⟩, He.glo_ok X G (c.fact 10 (f := .glo "sure_edge") rfl)⟩
  d_edges_in := by
    obtain ⟨fd, F⟩ := c.def_ 11 (d := dd_edges_in) rfl
    exact ⟨⟨fd, F, FunD.bindsN F fun _ _ _ _ _ _ us hl => match us, hl with | [_], _ => rfl⟩, He.glo_ok X G (c.fact 11 (f := .glo "edges_in") rfl)⟩
  d_numbers_in := by
    obtain ⟨fd, F⟩ := c.def_ 12 (d := dd_numbers_in) rfl
    exact ⟨⟨fd, F, FunD.bindsN F fun _ _ _ _ _ _ us hl => match us, hl with | [_], _ => rfl⟩, He.glo_ok X G (c.fact 12 (f := .glo "numbers_in") rfl)⟩
  d_corners_in := by
    obtain ⟨fd, F⟩ := c.def_ 13 (d := dd_corners_in) rfl
    exact ⟨⟨fd, F, FunD.bindsN F fun _ _ _ _ _ _ us hl => match us, hl with | [_], _ => rfl⟩, He.glo_ok X G (c.fact 13 (f := .glo "corners_in") rfl)⟩
  d_corner_numbers := by
    obtain ⟨fd, F⟩ := c.def_ 14 (d := dd_corner_numbers) rfl
    exact ⟨⟨fd, F, FunD.bindsN F fun _ _ _ _ _ _ us hl => match us, hl with | [_], _ => rfl⟩, He.glo_ok X G (c.fact 14 (f := .glo "corner_numbers") rfl)⟩
  d_all_ends := by
    obtain ⟨fd, F⟩ := c.def_ 15 (d := dd_all_ends) rfl
    exact ⟨⟨fd, F, FunD.bindsN F fun _ _ _ _ _ _ us hl => match us, hl with | [_], _ => rfl⟩, He.glo_ok X G (c.fact 15 (f := .glo "all_ends") rfl)⟩
  d_sure_corner := by
    obtain ⟨fd, F⟩ := c.def_ 16 (d := dd_sure_corner) rfl
    exact ⟨⟨fd, F, FunD.bindsN F fun _ _ _ _ _ _ us hl => match us, hl with | [_, _], _ => rfl⟩, He.glo_ok X G (c.fact 16 (f := .glo "sure_corner") rfl)⟩
  d_corners := by
    obtain ⟨fd, F⟩ := c.def_ 17 (d := dd_corners) rfl
    exact ⟨⟨fd, F, FunD.bindsN F fun _ _ _ _ _ _ us hl => match us, hl with | [_], _ => rfl⟩, He.glo_ok X G (c.fact 17 (f := .glo "corners") rfl)⟩
  d_corner_of := by
    obtain ⟨fd, F⟩ := c.def_ 18 (d := dd_corner_of) rfl
    exact ⟨⟨fd, F, FunD.bindsN F fun _ _ _ _ _ _ us hl => match us, hl with | [_, _, _], _ => rfl⟩, He.glo_ok X G (c.fact 18 (f := .glo "corner_of") rfl)⟩
  d_corners_at := by
    obtain ⟨fd, F⟩ := c.def_ 19 (d := dd_corners_at) rfl
    exact ⟨⟨fd, F, FunD.bindsN F fun _ _ _ _ _ _ us hl => match us, hl with | [_, _], _ => rfl⟩, He.glo_ok X G (c.fact 19 (f := .glo "corners_at") rfl)⟩
  d_ends_of := by
    obtain ⟨fd, F⟩ := c.def_ 20 (d := dd_ends_of) rfl
    exact ⟨⟨fd, F, FunD.bindsN F fun _ _ _ _ _ _ us hl => match us, hl with | [_, _], _ => rfl⟩, He.glo_ok X G (c.fact 20 (f := .glo "ends_of") rfl)⟩
  d_corner_sizes := by
    obtain ⟨fd, F⟩ := c.def_ 21 (d := dd_corner_sizes) rfl
    exact ⟨⟨fd, F, FunD.bindsN F fun _ _ _ _ _ _ us hl => match us, hl with | [_], _ => rfl⟩, He.glo_ok X G (c.fact 21 (f := .glo "corner_sizes") rfl)⟩
  d_edges_round := by
    obtain ⟨fd, F⟩ := c.def_ 22 (d := dd_edges_round) rfl
    exact ⟨⟨fd, F, FunD.bindsN F fun _ _ _ _ _ _ us hl => match us, hl with | [_, _], _ => rfl⟩, He.glo_ok X G (c.fact 22 (f := .glo "edges_round") rfl)⟩
  d_l_box := by
    obtain ⟨fd, F⟩ := c.def_ 23 (d := dd_l_box) rfl
    exact ⟨⟨fd, F, FunD.bindsN F fun _ _ _ _ _ _ us hl => match us, hl with | [_, _], _ => rfl⟩, He.glo_ok X G (c.fact 23 (f := .glo "_law_box") rfl)⟩
  d_l_take := by
    obtain ⟨fd, F⟩ := c.def_ 24 (d := dd_l_take) rfl
    exact ⟨⟨fd, F, FunD.bindsN F fun _ _ _ _ _ _ us hl => match us, hl with | [_, _], _ => rfl⟩, He.glo_ok X G (c.fact 24 (f := .glo "_law_take") rfl)⟩
  d_l_cells := by
    obtain ⟨fd, F⟩ := c.def_ 25 (d := dd_l_cells) rfl
    exact ⟨⟨fd, F, FunD.bindsN F fun _ _ _ _ _ _ us hl => match us, hl with | [_, _], _ => rfl⟩, He.glo_ok X G (c.fact 25 (f := .glo "_law_cells") rfl)⟩
  d_l_of := by
    obtain ⟨fd, F⟩ := c.def_ 26 (d := dd_l_of) rfl
    exact ⟨⟨fd, F, FunD.bindsN F fun _ _ _ _ _ _ us hl => match us, hl with | [_, _], _ => rfl⟩, He.glo_ok X G (c.fact 26 (f := .glo "_law_of") rfl)⟩
  d_l_pick := by
    obtain ⟨fd, F⟩ := c.def_ 27 (d := dd_l_pick) rfl
    exact ⟨⟨fd, F, FunD.bindsN F fun _ _ _ _ _ _ us hl => match us, hl with | [_, _, _], _ => rfl⟩, He.glo_ok X G (c.fact 27 (f := .glo "_law_pick") rfl)⟩
  d_l_lists := by
    obtain ⟨fd, F⟩ := c.def_ 28 (d := dd_l_lists) rfl
    exact ⟨⟨fd, F, FunD.bindsN F fun _ _ _ _ _ _ us hl => match us, hl with | [_], _ => rfl⟩, He.glo_ok X G (c.fact 28 (f := .glo "_law_lists") rfl)⟩
  d_l_same := by
    obtain ⟨fd, F⟩ := c.def_ 29 (d := dd_l_same) rfl
    exact ⟨⟨fd, F, FunD.bindsN F fun _ _ _ _ _ _ us hl => match us, hl with | [_, _], _ => rfl⟩, He.glo_ok X G (c.fact 29 (f := .glo "_law_same") rfl)⟩
  d_l_edges := by
    obtain ⟨fd, F⟩ := c.def_ 30 (d := dd_l_edges) rfl
    exact ⟨⟨fd, F, FunD.bindsN F fun _ _ _ _ _ _ us hl => match us, hl with | [_], _ => rfl⟩, He.glo_ok X G (c.fact 30 (f := .glo "_law_edges") rfl)⟩
  d_l_names := by
    obtain ⟨fd, F⟩ := c.def_ 31 (d := dd_l_names) rfl
    exact ⟨⟨fd, F, FunD.bindsN F fun _ _ _ _ _ _ us hl => match us, hl with | [_], _ => rfl⟩, He.glo_ok X G (c.fact 31 (f := .glo "_law_names") rfl)⟩
  d_l_corners := by
    obtain ⟨fd, F⟩ := c.def_ 32 (d := dd_l_corners) rfl
    exact ⟨⟨fd, F, FunD.bindsN F fun _ _ _ _ _ _ us hl => match us, hl with | [_], _ => rfl⟩, He.glo_ok X G (c.fact 32 (f := .glo "_law_corners") rfl)⟩
  d_l_ends := by
    obtain ⟨fd, F⟩ := c.def_ 33 (d := dd_l_ends) rfl
    exact ⟨⟨fd, F, FunD.bindsN F fun _ _ _ _ _ _ us hl => match us, hl with | [_], _ => rfl⟩, He.glo_ok X G (c.fact 33 (f := .glo "_law_ends") rfl)⟩
  d_l_square := by
    obtain ⟨fd, F⟩ := c.def_ 34 (d := dd_l_square) rfl
    exact ⟨⟨fd, F, FunD.bindsN F fun _ _ _ _ _ _ us hl => match us, hl with | [_, _], _ => rfl⟩, He.glo_ok X G (c.fact 34 (f := .glo "_law_square") rfl)⟩
  d_l_is_number := by
    obtain ⟨fd, F⟩ := c.def_ 35 (d := dd_l_is_number) rfl
    exact ⟨⟨fd, F, FunD.bindsN F fun _ _ _ _ _ _ us hl => match us, hl with | [_], _ => rfl⟩, He.glo_ok X G (c.fact 35 (f := .glo "_law_is_number") rfl)⟩
  d_l_is_gate := by
    obtain ⟨fd, F⟩ := c.def_ 36 (d := dd_l_is_gate) rfl
    exact ⟨⟨fd, F, FunD.bindsN F fun _ _ _ _ _ _ us hl => match us, hl with | [_, _], _ => rfl⟩, He.glo_ok X G (c.fact 36 (f := .glo "_law_is_gate") rfl)⟩
  d_l_is_sewn := by
    obtain ⟨fd, F⟩ := c.def_ 37 (d := dd_l_is_sewn) rfl
    exact ⟨⟨fd, F, FunD.bindsN F fun _ _ _ _ _ _ us hl => match us, hl with | [_], _ => rfl⟩, He.glo_ok X G (c.fact 37 (f := .glo "_law_is_sewn") rfl)⟩
  d_l_lots_of_ends := by
    obtain ⟨fd, F⟩ := c.def_ 38 (d := dd_l_lots_of_ends) rfl
    exact ⟨⟨fd, F, FunD.bindsN F fun _ _ _ _ _ _ us hl => match us, hl with | [_], _ => rfl⟩, He.glo_ok X G (c.fact 38 (f := .glo "_law_lots_of_ends") rfl)⟩
  d_l_any_hide := by
    obtain ⟨fd, F⟩ := c.def_ 39 (d := dd_l_any_hide) rfl
    exact ⟨⟨fd, F, FunD.bindsN F fun _ _ _ _ _ _ us hl => match us, hl with | [_, _], _ => rfl⟩, He.glo_ok X G (c.fact 39 (f := .glo "_law_any_hide") rfl)⟩
  d_l_sewn_so := by
    obtain ⟨fd, F⟩ := c.def_ 40 (d := dd_l_sewn_so) rfl
    exact ⟨⟨fd, F, FunD.bindsN F fun _ _ _ _ _ _ us hl => match us, hl with | [_, _], _ => rfl⟩, He.glo_ok X G (c.fact 40 (f := .glo "_law_sewn_so") rfl)⟩
  d_l_hand_right := by
    obtain ⟨fd, F⟩ := c.def_ 41 (d := dd_l_hand_right) rfl
    exact ⟨⟨fd, F, FunD.bindsN F fun _ _ _ _ _ _ us hl => match us, hl with | [], _ => rfl⟩, He.glo_ok X G (c.fact 41 (f := .glo "_law_hand_right") rfl)⟩
  d_l_right := by
    obtain ⟨fd, F⟩ := c.def_ 42 (d := dd_l_right) rfl
    exact ⟨⟨fd, F, FunD.bindsN F fun _ _ _ _ _ _ us hl => match us, hl with | [_], _ => rfl⟩, He.glo_ok X G (c.fact 42 (f := .glo "_law_right") rfl)⟩
  d_law := by
    obtain ⟨fd, F⟩ := c.def_ 43 (d := dd_law) rfl
    exact ⟨⟨fd, F, FunD.bindsN F fun _ _ _ _ _ _ us hl => match us, hl with | [_], _ => rfl⟩, He.glo_ok X G (c.fact 43 (f := .glo "law") rfl)⟩
  m_len := He.free_ok X G (c.fact 44 (f := .free "len") rfl)
  m_isinstance := He.free_ok X G (c.fact 45 (f := .free "isinstance") rfl)
  m_tuple := He.free_ok X G (c.fact 46 (f := .free "tuple") rfl)
  m_list := He.free_ok X G (c.fact 47 (f := .free "list") rfl)
  m_all := He.free_ok X G (c.fact 48 (f := .free "all") rfl)
  m_enumerate := He.free_ok X G (c.fact 49 (f := .free "enumerate") rfl)
  m_range := He.free_ok X G (c.fact 50 (f := .free "range") rfl)
  m_zip := He.free_ok X G (c.fact 51 (f := .free "zip") rfl)
  m_min := He.free_ok X G (c.fact 52 (f := .free "min") rfl)
  m_abs := He.free_ok X G (c.fact 53 (f := .free "abs") rfl)
  m_int := He.free_ok X G (c.fact 54 (f := .free "int") rfl)
  m_bool := He.free_ok X G (c.fact 55 (f := .free "bool") rfl)
  m_str := He.free_ok X G (c.fact 56 (f := .free "str") rfl)
  m_set := He.free_ok X G (c.fact 57 (f := .free "set") rfl)
  m_dict := He.free_ok X G (c.fact 58 (f := .free "dict") rfl)
end Hp5

set_option maxHeartbeats 0
namespace Hp5
open PySem PySem.Spec PyProof.Rows L2
theorem run (w : World) : HandSHeadRun.RunEq Rw (PySem.W.view Rw.prog [52]) hk ob 4000 loose w := by
  intro os
  kernel_rfl
end Hp5

set_option maxHeartbeats 4000000
/-! plain data over the abstract heap; frames; the rule for a def of the text -/
namespace Hp5
open PySem PySem.Spec PyProof.Rows L2
/-- plain data: whole numbers, tuples and lists of such -/
inductive Dt where
  | int (i : Int)
  | tup (l : List Dt)
  | lst (l : List Dt)
/-- a list of three whole numbers: the law's source of draws -/
def Tin (o : HO) : Prop := ∃ x y z : Int, o = .lst [.int x, .int y, .int z]
/-- all that was tracked stays, but for sources of draws -/
def Stay (H H' : Hp) : Prop := ∀ b o, H b = some o → ¬ Tin o → H' b = some o
theorem Stay.refl (H : Hp) : Stay H H := fun _ _ h _ => h
theorem Stay.trans {H H1 H2 : Hp} (a : Stay H H1) (b : Stay H1 H2) : Stay H H2 := fun c o h n => b c o (a c o h n) n
theorem Stay.of {H H1 : Hp} (a : Same H H1) : Stay H H1 := fun c o h _ => a c o h
theorem tin_tup (xs : List V) : ¬ Tin (.tup xs) := fun ⟨_, _, _, e⟩ => by cases e
mutual
inductive Is (H : Hp) : V → Dt → Prop
  | int (i : Int) : Is H (.int i) (.int i)
  | tup {a : Addr} {vs : List V} {ds : List Dt} : H a = some (.tup vs) → IsAll H vs ds → Is H (.ref a) (.tup ds)
  | lst {a : Addr} {vs : List V} {ds : List Dt} : H a = some (.lst vs) → ¬ Tin (.lst vs) → IsAll H vs ds → Is H (.ref a) (.lst ds)
inductive IsAll (H : Hp) : List V → List Dt → Prop
  | nil : IsAll H [] []
  | cons {v : V} {vs : List V} {d : Dt} {ds : List Dt} : Is H v d → IsAll H vs ds → IsAll H (v :: vs) (d :: ds)
end
mutual
theorem Is.stay {H H' : Hp} (s : Stay H H') : ∀ (d : Dt) (v : V), Is H v d → Is H' v d
  | .int _, _, h => by cases h; exact .int _
  | .tup l, _, h => by
    cases h with
    | tup e q => exact .tup (s _ _ e (tin_tup _)) (IsAll.stay s l _ q)
  | .lst l, _, h => by
    cases h with
    | lst e n q => exact .lst (s _ _ e n) n (IsAll.stay s l _ q)
theorem IsAll.stay {H H' : Hp} (s : Stay H H') : ∀ (ds : List Dt) (vs : List V), IsAll H vs ds → IsAll H' vs ds
  | [], _, h => by cases h; exact .nil
  | d :: ds, _, h => by
    cases h with
    | cons h1 h2 => exact .cons (Is.stay s d _ h1) (IsAll.stay s ds _ h2)
end
theorem Is.sm {H H' : Hp} {v : V} {d : Dt} (h : Is H v d) (s : Same H H') : Is H' v d := Is.stay (.of s) d v h
theorem Is.st {H H' : Hp} {v : V} {d : Dt} (h : Is H v d) (s : Stay H H') : Is H' v d := Is.stay s d v h
theorem IsAll.sm {H H' : Hp} {v : List V} {d : List Dt} (h : IsAll H v d) (s : Same H H') : IsAll H' v d := IsAll.stay (.of s) d v h
theorem IsAll.st {H H' : Hp} {v : List V} {d : List Dt} (h : IsAll H v d) (s : Stay H H') : IsAll H' v d := IsAll.stay s d v h
theorem Is.tupE {H : Hp} {v : V} {ds : List Dt} (h : Is H v (.tup ds)) : ∃ a vs, v = .ref a ∧ H a = some (.tup vs) ∧ IsAll H vs ds := by
  cases h with
  | tup e q => exact ⟨_, _, rfl, e, q⟩
theorem Is.lstE {H : Hp} {v : V} {ds : List Dt} (h : Is H v (.lst ds)) : ∃ a vs, v = .ref a ∧ H a = some (.lst vs) ∧ ¬ Tin (.lst vs) ∧ IsAll H vs ds := by
  cases h with
  | lst e n q => exact ⟨_, _, rfl, e, n, q⟩
theorem Is.intE {H : Hp} {v : V} {i : Int} (h : Is H v (.int i)) : v = .int i := by
  cases h; rfl
theorem IsAll.length {H : Hp} : ∀ {vs : List V} {ds : List Dt}, IsAll H vs ds → vs.length = ds.length
  | _, _, .nil => rfl
  | _, _, .cons _ t => congrArg (· + 1) (IsAll.length t)
theorem IsAll.get {H : Hp} : ∀ {vs : List V} {ds : List Dt} {i : Nat} {d : Dt}, IsAll H vs ds → ds[i]? = some d → ∃ v, vs[i]? = some v ∧ Is H v d
  | _, _, _, _, .nil, e => by simp at e
  | _, _, 0, _, .cons h _, e => by simp at e; subst e; exact ⟨_, rfl, h⟩
  | _, _, i + 1, _, .cons _ t, e => by
    obtain ⟨v, h1, h2⟩ := IsAll.get (i := i) t (by simpa using e)
    exact ⟨v, by simpa using h1, h2⟩
theorem IsAll.getV {H : Hp} : ∀ {vs : List V} {ds : List Dt} {i : Nat} {v : V}, IsAll H vs ds → vs[i]? = some v → ∃ d, ds[i]? = some d ∧ Is H v d
  | _, _, _, _, .nil, e => by simp at e
  | _, _, 0, _, .cons h _, e => by simp at e; subst e; exact ⟨_, rfl, h⟩
  | _, _, i + 1, _, .cons _ t, e => by
    obtain ⟨v, h1, h2⟩ := IsAll.getV (i := i) t (by simpa using e)
    exact ⟨v, by simpa using h1, h2⟩
theorem IsAll.append {H : Hp} : ∀ {vs ws : List V} {ds es : List Dt}, IsAll H vs ds → IsAll H ws es → IsAll H (vs ++ ws) (ds ++ es)
  | _, _, _, _, .nil, q => q
  | _, _, _, _, .cons h t, q => .cons h (IsAll.append t q)
theorem IsAll.snoc {H : Hp} {vs : List V} {ds : List Dt} {v : V} {d : Dt} (h : IsAll H vs ds) (q : Is H v d) : IsAll H (vs ++ [v]) (ds ++ [d]) := h.append (.cons q .nil)
theorem IsAll.eraseIdx {H : Hp} : ∀ {vs : List V} {ds : List Dt} (i : Nat), IsAll H vs ds → IsAll H (vs.eraseIdx i) (ds.eraseIdx i)
  | _, _, _, .nil => .nil
  | _, _, 0, .cons _ t => t
  | _, _, i + 1, .cons h t => .cons h (IsAll.eraseIdx i t)
theorem IsAll.ints {H : Hp} : ∀ (ns : List Int), IsAll H (ns.map V.int) (ns.map Dt.int)
  | [] => .nil
  | _ :: r => .cons (.int _) (IsAll.ints r)
/-- a pair of numbers -/
abbrev Pr := Nat × Nat
def prD (p : Pr) : Dt := .tup [.int p.1, .int p.2]
theorem prD_is {H : Hp} {a : Addr} {p : Pr} (h : H a = some (.tup [.int p.1, .int p.2])) : Is H (.ref a) (prD p) := .tup h (.cons (.int _) (.cons (.int _) .nil))
theorem Is.prE {H : Hp} {v : V} {p : Pr} (h : Is H v (prD p)) : ∃ a, v = .ref a ∧ H a = some (.tup [.int p.1, .int p.2]) := by
  obtain ⟨a, vs, rfl, e, q⟩ := h.tupE
  cases q with
  | cons q1 q =>
    cases q with
    | cons q2 q =>
      cases q
      cases q1
      cases q2
      exact ⟨a, rfl, e⟩
def rowD (r : List Pr) : Dt := .tup (r.map prD)
def skD (S : List (List Pr)) : Dt := .tup (S.map rowD)
/-- new objects -/
theorem sm_upd {H : Hp} {p : Addr} {o : HO} (h : H p = none) : Same H (upd H p o) := fun b x e => by
  rw [upd_ne (ne_of_none e h)]
  exact e
/-- a change at an address that was not tracked at the beginning -/
theorem sm_upd2 {H H1 : Hp} {p : Addr} {o : HO} (s : Same H H1) (h : H p = none) : Same H (upd H1 p o) := fun b x e => by
  rw [upd_ne (ne_of_none e h)]
  exact s _ _ e
theorem st_upd2 {H H1 : Hp} {p : Addr} {o : HO} (s : Stay H H1) (h : H p = none) : Stay H (upd H1 p o) := fun b x e n => by
  rw [upd_ne (ne_of_none e h)]
  exact s _ _ e n
/-! ### the rule for a def -/
section
variable (P : Program) (w : World) (K : PySem.W.Frag) (mg : Str → Option Value) (base : Heap)
/-- the def x of the text keeps its promise -/
structure OkD (k : Nat) (x : Str) (ps : List Str) (sp : Sp) : Prop where
  ex : ∃ fd, FnOk P w K mg base CX0 k (He.ga K x) fd ps sp ∧ Binds K fd ps []
  gl : mg x = some (.ref (He.ga K x))
  kp : PySem.W.keepIn K (.ref (He.ga K x)) = true
end
section
variable {P : Program} {w : World} {K : PySem.W.Frag} {mg : Str → Option Value} {base : Heap}
theorem HasD.ok {x : Str} {st : Stmt} {N ps : List Str} {k : Nat} {sp : Sp} (D : HasD K mg x st ps) (S : FnScope N ps (defScope st)) (len : ∀ vs H Q E, sp vs H Q E → vs.length = ps.length)
    (hbody : ∀ (cdv : Value) (A : Around) (outer : List Env) (s : Shared) (H : Hp) (vs : List V) (Q : VK) (E : XK), Room k (A.deeper (envOfC x (defScope st) s.heap.objs.size (He.ga K x) cdv)) → sp vs H Q E →
      ∃ t, PSs (cxOf CX0 P w K mg base N x (defScope st) (He.ga K x) cdv A outer s H E).nox (defBody st) t ∧ t { nx := fun _ H' => Q .non H', rt := Q } (start N vs) H) : OkD P w K mg base (k + 1) x ps sp := by
  obtain ⟨⟨fd, F, b⟩, gl⟩ := D
  refine ⟨⟨fd, F.ok S len fun cdv A outer s H vs Q E hr h => ?_, b⟩, gl, F.kp⟩
  obtain ⟨t, h1, h2⟩ := hbody cdv A outer s H vs Q E hr h
  exact ⟨t, h1.nox, h2⟩
theorem OkD.mono {x : Str} {ps : List Str} {j k : Nat} {sp : Sp} (D : OkD P w K mg base j x ps sp) (h : j ≤ k) : OkD P w K mg base k x ps sp :=
  ⟨let ⟨fd, F, b⟩ := D.ex; ⟨fd, F.mono h, b⟩, D.gl, D.kp⟩
theorem OkD.imp {x : Str} {ps : List Str} {k : Nat} {sp sp' : Sp} (D : OkD P w K mg base k x ps sp) (h : ∀ vs H Q E, sp' vs H Q E → sp vs H Q E) : OkD P w K mg base k x ps sp' :=
  ⟨let ⟨fd, F, b⟩ := D.ex; ⟨fd, F.imp h, b⟩, D.gl, D.kp⟩
end
section
variable {X : Cx} {x : Str} {p pos : Pos} {e : Expr} {es : List Expr} {t : TA} {k k' : Nat} {ps : List Str} {sp : Sp}
/-- a call of a def of the text -/
theorem pe_c (D : OkD X.prog X.w X.K X.mg X.base k x ps sp) (hr : Room k' X.A) (hk : k ≤ k') (ha : PA X (e :: es) t) (hg : Gl X x := by rfl) (hdb : (x == ("__debug__" : Str)) = false := by decide)
    (he : starEach (e :: es) X.env = (false, eval e X.env) :: starEach es X.env := by rfl) (hpl : (backTo pos (starEach es X.env)).any (·.1) = false := by rfl) :
    PE X (.Call (.Name x p) (e :: es) [] pos) (tCall sp [] E0 t) := by
  obtain ⟨fd, F, b⟩ := D.ex
  exact pe_call F (hr.mono hk) hg D.gl D.kp b .nil pass0 ha hdb he hpl
theorem pe_c0 (D : OkD X.prog X.w X.K X.mg X.base k x ps sp) (hr : Room k' X.A) (hk : k ≤ k') (hg : Gl X x := by rfl) (hdb : (x == ("__debug__" : Str)) = false := by decide) :
    PE X (.Call (.Name x p) [] [] pos) (tCall sp [] E0 tNil) := by
  obtain ⟨fd, F, b⟩ := D.ex
  exact pe_call0 F (hr.mono hk) hg D.gl D.kp b .nil pass0 hdb
end
end Hp5

set_option maxHeartbeats 4000000
namespace Hp5
open PySem PySem.Spec PyProof.Rows L2
theorem bt_int : bootBuiltins "int" = some (.type "int") := by decide +kernel
theorem bt_bool : bootBuiltins "bool" = some (.type "bool") := by decide +kernel
theorem bt_str : bootBuiltins "str" = some (.type "str") := by decide +kernel
theorem bt_list : bootBuiltins "list" = some (.type "list") := by decide +kernel
theorem bt_tuple : bootBuiltins "tuple" = some (.type "tuple") := by decide +kernel
theorem bt_dict : bootBuiltins "dict" = some (.type "dict") := by decide +kernel
theorem bt_set : bootBuiltins "set" = some (.type "set") := by decide +kernel
theorem bt_isinstance : bootBuiltins "isinstance" = some (.builtin "isinstance") := by decide +kernel
theorem bt_len : bootBuiltins "len" = some (.builtin "len") := by decide +kernel
theorem bt_all : bootBuiltins "all" = some (.builtin "all") := by decide +kernel
theorem bt_min : bootBuiltins "min" = some (.builtin "min") := by decide +kernel
theorem bt_abs : bootBuiltins "abs" = some (.builtin "abs") := by decide +kernel
theorem kt_ii {K : PySem.W.Frag} : PySem.W.kitOne K (.type "int") (.type "int") = some true := kit_ty (by decide +kernel)
theorem kt_ib {K : PySem.W.Frag} : PySem.W.kitOne K (.type "int") (.type "bool") = some false := kit_ty (by decide +kernel)
theorem kt_is {K : PySem.W.Frag} : PySem.W.kitOne K (.type "int") (.type "str") = some false := kit_ty (by decide +kernel)
theorem kt_il {K : PySem.W.Frag} : PySem.W.kitOne K (.type "int") (.type "list") = some false := kit_ty (by decide +kernel)
theorem kt_it {K : PySem.W.Frag} : PySem.W.kitOne K (.type "int") (.type "tuple") = some false := kit_ty (by decide +kernel)
theorem kt_tt {K : PySem.W.Frag} : PySem.W.kitOne K (.type "tuple") (.type "tuple") = some true := kit_ty (by decide +kernel)
theorem kt_tl {K : PySem.W.Frag} : PySem.W.kitOne K (.type "tuple") (.type "list") = some false := kit_ty (by decide +kernel)
theorem kt_ll {K : PySem.W.Frag} : PySem.W.kitOne K (.type "list") (.type "list") = some true := kit_ty (by decide +kernel)
theorem kt_lt {K : PySem.W.Frag} : PySem.W.kitOne K (.type "list") (.type "tuple") = some false := kit_ty (by decide +kernel)
section
variable {P : Program} {w : World} {K : PySem.W.Frag} {mg : Str → Option Value} {base : Heap}
/-- a number is one -/
def spNum : Sp := fun vs H Q _ => ∃ i : Int, vs = [.int i] ∧ Q (.bl true) H
theorem sc_is_number : FnScope ["thing"] ["thing"] (defScope s_is_number) := ⟨rfl, rfl, rfl, by decide +kernel, rfl, by decide +kernel, by decide +kernel⟩
theorem ok_is_number (T : Tx K mg) : OkD P w K mg base 1 "is_number" ["thing"] spNum := by
  refine T.d_is_number.ok sc_is_number (fun vs H Q E h => ?_) (fun cdv A outer s H vs Q E hr h => ?_)
  · obtain ⟨i, rfl, _⟩ := h
    rfl
  · obtain ⟨i, rfl, q⟩ := h
    refine ⟨_, pss_one (ps_ret (pe_and (pe_callB call_isi rfl T.m_isinstance bt_isinstance (pa_cons (pv 0) (pa_cons (pe_bltn rfl T.m_int bt_int rfl (v := .ty "int")) pa_nil)))
      (pe_one (pe_not (pe_callB call_isi rfl T.m_isinstance bt_isinstance (pa_cons (pv 0) (pa_cons (pe_bltn rfl T.m_bool bt_bool rfl (v := .ty "bool")) pa_nil))))))), ?_⟩
    refine ⟨_, rfl, _, _, _, _, true, rfl, .ty _, .base (.int _), kt_ii, true, rfl, iteT ?_⟩
    exact ⟨_, rfl, _, _, _, _, false, rfl, .ty _, .base (.int _), kt_ib, false, rfl, q⟩
theorem sc_l_is_number : FnScope ["_law_own"] ["_law_own"] (defScope s_l_is_number) := ⟨rfl, rfl, rfl, by decide +kernel, rfl, by decide +kernel, by decide +kernel⟩
theorem ok_l_is_number (T : Tx K mg) : OkD P w K mg base 1 "_law_is_number" ["_law_own"] spNum := by
  refine T.d_l_is_number.ok sc_l_is_number (fun vs H Q E h => ?_) (fun cdv A outer s H vs Q E hr h => ?_)
  · obtain ⟨i, rfl, _⟩ := h
    rfl
  · obtain ⟨i, rfl, q⟩ := h
    refine ⟨_, pss_one (ps_ret (pe_and (pe_callB call_isi rfl T.m_isinstance bt_isinstance (pa_cons (pv 0) (pa_cons (pe_bltn rfl T.m_int bt_int rfl (v := .ty "int")) pa_nil)))
      (pe_one (pe_not (pe_callB call_isi rfl T.m_isinstance bt_isinstance (pa_cons (pv 0) (pa_cons (pe_bltn rfl T.m_bool bt_bool rfl (v := .ty "bool")) pa_nil))))))), ?_⟩
    refine ⟨_, rfl, _, _, _, _, true, rfl, .ty _, .base (.int _), kt_ii, true, rfl, iteT ?_⟩
    exact ⟨_, rfl, _, _, _, _, false, rfl, .ty _, .base (.int _), kt_ib, false, rfl, q⟩
/-- a number from one to another -/
def spWithin : Sp := fun vs H Q _ => ∃ i lo hi : Int, vs = [.int i, .int lo, .int hi] ∧ lo ≤ i ∧ i ≤ hi ∧ Q (.bl true) H
theorem sc_is_within : FnScope ["thing", "least", "most"] ["thing", "least", "most"] (defScope s_is_within) := ⟨rfl, rfl, rfl, by decide +kernel, rfl, by decide +kernel, by decide +kernel⟩
theorem ok_is_within (T : Tx K mg) : OkD P w K mg base 2 "is_within" ["thing", "least", "most"] spWithin := by
  have G : OkD P w K mg base 1 "is_number" ["thing"] spNum := ok_is_number T
  refine T.d_is_within.ok sc_is_within (fun vs H Q E h => ?_) (fun cdv A outer s H vs Q E hr h => ?_)
  · obtain ⟨i, lo, hi, rfl, _⟩ := h
    rfl
  · obtain ⟨i, lo, hi, rfl, h1, h2, q⟩ := h
    refine ⟨_, pss_one (ps_ret (pe_and (pe_c G hr (by decide) (pa_cons (pv 0) pa_nil)) (pe_one (pe_chain op_le op_le (pv 1) (pv 0) (pv 2))))), ?_⟩
    refine ⟨_, rfl, i, rfl, true, rfl, iteT ?_⟩
    refine ⟨_, rfl, _, rfl, _, _, rfl, rfl, true, congrArg V.bl (decide_eq_true h1), iteT ?_⟩
    refine ⟨_, rfl, _, _, rfl, rfl, ?_⟩
    show Q (.bl (decide (i ≤ hi))) H
    rw [decide_eq_true h2]
    exact q
/-- a tuple of so many -/
def spLong : Sp := fun vs H Q _ => ∃ (a : Addr) (xs : List V) (n : Int), vs = [.ref a, .int n] ∧ H a = some (.tup xs) ∧ n = xs.length ∧ Q (.bl true) H
theorem sc_is_long : FnScope ["thing", "length"] ["thing", "length"] (defScope s_is_long) := ⟨rfl, rfl, rfl, by decide +kernel, rfl, by decide +kernel, by decide +kernel⟩
theorem ok_is_long (T : Tx K mg) : OkD P w K mg base 1 "is_long" ["thing", "length"] spLong := by
  refine T.d_is_long.ok sc_is_long (fun vs H Q E h => ?_) (fun cdv A outer s H vs Q E hr h => ?_)
  · obtain ⟨a, xs, n, rfl, _⟩ := h
    rfl
  · obtain ⟨a, xs, n, rfl, ha, hn, q⟩ := h
    refine ⟨_, pss_one (ps_ret (pe_and (pe_callB call_isi rfl T.m_isinstance bt_isinstance (pa_cons (pv 0) (pa_cons (pe_bltn rfl T.m_tuple bt_tuple rfl (v := .ty "tuple")) pa_nil)))
      (pe_one (pe_cmpR op_eq (pe_callB call_len_seq rfl T.m_len bt_len (pa_cons (pv 0) pa_nil)) (pv 1) (nomark _))))), ?_⟩
    refine ⟨_, rfl, _, _, _, _, true, rfl, .ty _, .base (.tup ha), kt_tt, true, rfl, iteT ?_⟩
    refine ⟨_, rfl, a, xs, rfl, .inr (SqT.of ha), _, rfl, rfl, ?_⟩
    show Q (.bl (decide (V.int (xs.length : Nat) = V.int n))) H
    rw [decide_eq_true (congrArg V.int hn.symm)]
    exact q
/-- a SIDE -/
def spSide : Sp := fun vs H Q _ => ∃ i : Int, vs = [.int i] ∧ 0 ≤ i ∧ i ≤ 3 ∧ Q (.bl true) H
theorem sc_is_side : FnScope ["thing"] ["thing"] (defScope s_is_side) := ⟨rfl, rfl, rfl, by decide +kernel, rfl, by decide +kernel, by decide +kernel⟩
theorem ok_is_side (T : Tx K mg) : OkD P w K mg base 3 "is_side" ["thing"] spSide := by
  have G : OkD P w K mg base 2 "is_within" ["thing", "least", "most"] spWithin := ok_is_within T
  refine T.d_is_side.ok sc_is_side (fun vs H Q E h => ?_) (fun cdv A outer s H vs Q E hr h => ?_)
  · obtain ⟨i, rfl, _⟩ := h
    rfl
  · obtain ⟨i, rfl, h1, h2, q⟩ := h
    refine ⟨_, pss_one (ps_ret (pe_c G hr (by decide) (pa_cons (pv 0) (pa_cons pe_int (pa_cons pe_int pa_nil))))), ?_⟩
    exact ⟨_, rfl, i, 0, 3, rfl, h1, h2, q⟩
/-- a CROSSING of so many FIELDS -/
def spCrossing : Sp := fun vs H Q _ => ∃ (n : Nat) (v : V) (p : Pr), vs = [.int n, v] ∧ Is H v (prD p) ∧ p.1 < n ∧ p.2 < 4 ∧ Q (.bl true) H
theorem sc_is_crossing_of : FnScope ["many", "thing"] ["many", "thing"] (defScope s_is_crossing_of) := ⟨rfl, rfl, rfl, by decide +kernel, rfl, by decide +kernel, by decide +kernel⟩
theorem ok_is_crossing_of (T : Tx K mg) : OkD P w K mg base 4 "is_crossing_of" ["many", "thing"] spCrossing := by
  have G1 : OkD P w K mg base 1 "is_long" ["thing", "length"] spLong := ok_is_long T
  have G2 : OkD P w K mg base 2 "is_within" ["thing", "least", "most"] spWithin := ok_is_within T
  have G3 : OkD P w K mg base 3 "is_side" ["thing"] spSide := ok_is_side T
  refine T.d_is_crossing_of.ok sc_is_crossing_of (fun vs H Q E h => ?_) (fun cdv A outer s H vs Q E hr h => ?_)
  · obtain ⟨n, v, p, rfl, _⟩ := h
    rfl
  · obtain ⟨n, v, p, rfl, hv, h1, h2, q⟩ := h
    obtain ⟨a, rfl, ha⟩ := hv.prE
    refine ⟨_, pss_one (ps_ret (pe_and (pe_c G1 hr (by decide) (pa_cons (pv 1) (pa_cons pe_int pa_nil)))
      (pe_and (pe_c G2 hr (by decide) (pa_cons (pe_ix ix_tup (pv 1) pe_int (fun _ _ => rfl)) (pa_cons pe_int (pa_cons (pe_op op_sub (pv 0) pe_int) pa_nil))))
        (pe_one (pe_c G3 hr (by decide) (pa_cons (pe_ix ix_tup (pv 1) pe_int (fun _ _ => rfl)) pa_nil)))))), ?_⟩
    refine ⟨_, rfl, a, _, 2, rfl, ha, rfl, true, rfl, iteT ?_⟩
    refine ⟨_, rfl, a, _, 0, _, rfl, rfl, SqT.of ha, atI_nat (j := 0) rfl, _, rfl, _, _, rfl, rfl, (p.1 : Int), 0, (n : Int) - 1, rfl, by omega, by omega, true, rfl, iteT ?_⟩
    exact ⟨_, rfl, a, _, 1, _, rfl, rfl, SqT.of ha, atI_nat (j := 1) rfl, (p.2 : Int), rfl, by omega, by omega, q⟩
end
end Hp5

set_option maxHeartbeats 4000000
namespace Hp5
open PySem PySem.Spec PyProof.Rows L2
/-- what is never come to -/
theorem pe_nv {X : Cx} {e : Expr} : PE X e (fun _ _ _ => False) := ⟨fun _ _ _ _ _ _ h => h.elim⟩
theorem tyes {σ : L2.St} {H : Hp} {Q : Bool → Hp → Prop} (h : Q true H) : tYes σ H Q := h
theorem take_snoc {α : Type} {l : List α} {i : Nat} {x : α} (h : l[i]? = some x) : l.take (i + 1) = l.take i ++ [x] := by
  rw [List.take_add_one, h] <;> rfl
theorem get_lt {α : Type} {l : List α} {i : Nat} {x : α} (h : l[i]? = some x) : i < l.length := (List.getElem?_eq_some_iff.mp h).1
theorem lt_get {α : Type} {l : List α} {i : Nat} (h : i < l.length) : ∃ x, l[i]? = some x := ⟨l[i], List.getElem?_eq_getElem h⟩
theorem fm_snoc {α : Type} {l : List (Option α)} {i : Nat} {o : Option α} (h : l[i]? = some o) : (l.take (i + 1)).filterMap id = (l.take i).filterMap id ++ o.toList := by
  rw [take_snoc h, List.filterMap_append]
  cases o <;> rfl
/-! ### data without lists stands while the tuples do -/
mutual
def Tu : Dt → Prop
  | .int _ => True
  | .tup l => TuAll l
  | .lst _ => False
def TuAll : List Dt → Prop
  | [] => True
  | d :: r => Tu d ∧ TuAll r
end
theorem tuAll_iff : ∀ {l : List Dt}, TuAll l ↔ ∀ d ∈ l, Tu d
  | [] => ⟨fun _ _ h => by simp at h, fun _ => trivial⟩
  | x :: r => by
    show Tu x ∧ TuAll r ↔ _
    rw [tuAll_iff (l := r)]
    exact ⟨fun h d hd => (List.mem_cons.mp hd).elim (fun e => e ▸ h.1) (h.2 d), fun h => ⟨h x List.mem_cons_self, fun d hd => h d (List.mem_cons_of_mem _ hd)⟩⟩
def Tps (H H' : Hp) : Prop := ∀ b xs, H b = some (.tup xs) → H' b = some (.tup xs)
theorem Tps.of {H H' : Hp} (s : Same H H') : Tps H H' := fun b xs e => s _ _ e
theorem Tps.st {H H' : Hp} (s : Stay H H') : Tps H H' := fun b xs e => s _ _ e (tin_tup _)
theorem Tps.trans {H H1 H2 : Hp} (a : Tps H H1) (b : Tps H1 H2) : Tps H H2 := fun c xs h => b c xs (a c xs h)
theorem Tps.upd {H : Hp} {D : Addr} {xs : List V} {o : HO} (h : H D = some (.lst xs)) : Tps H (upd H D o) := fun b ys e => by
  rw [upd_ne (ne_of e h (by intro z; cases z))]
  exact e
theorem Tps.updT {H : Hp} {D : Addr} {kvs : List (List Key × V)} {o : HO} (h : H D = some (.dT kvs)) : Tps H (L2.upd H D o) := fun b ys e => by
  rw [upd_ne (ne_of e h (by intro z; cases z))]
  exact e
theorem Tps.updK {H : Hp} {D : Addr} {kvs : List (Key × V)} {o : HO} (h : H D = some (.dK kvs)) : Tps H (L2.upd H D o) := fun b ys e => by
  rw [upd_ne (ne_of e h (by intro z; cases z))]
  exact e
mutual
theorem Is.tp {H H' : Hp} (s : Tps H H') : ∀ (d : Dt) (v : V), Tu d → Is H v d → Is H' v d
  | .int _, _, _, h => by cases h; exact .int _
  | .tup l, _, u, h => by
    cases h with
    | tup e q => exact .tup (s _ _ e) (IsAll.tp s l _ u q)
  | .lst l, _, u, h => u.elim
theorem IsAll.tp {H H' : Hp} (s : Tps H H') : ∀ (ds : List Dt) (vs : List V), TuAll ds → IsAll H vs ds → IsAll H' vs ds
  | [], _, _, h => by cases h; exact .nil
  | d :: ds, _, u, h => by
    cases h with
    | cons h1 h2 => exact .cons (Is.tp s d _ u.1 h1) (IsAll.tp s ds _ u.2 h2)
end
theorem tu_pr (p : Pr) : Tu (prD p) := ⟨trivial, trivial, trivial⟩
theorem tu_row (r : List Pr) : Tu (rowD r) := tuAll_iff.mpr fun d hd => by
  obtain ⟨p, _, rfl⟩ := List.mem_map.mp hd
  exact tu_pr p
theorem tu_sk (S : List (List Pr)) : Tu (skD S) := tuAll_iff.mpr fun d hd => by
  obtain ⟨p, _, rfl⟩ := List.mem_map.mp hd
  exact tu_row p
/-- a comprehension that makes data; fs: what each turn gives, if anything -/
theorem lc_if {J : It} {n : Nat} {G : Hp → Prop} {Y : Nat → Hp → V → Hp → Prop} (wk : Walk J n G Y) {g : TG} {tt : TT} {te : TE} {vs : List Nat} {σ : L2.St} {H1 : Hp} {D : Addr} {Qd : Hp → Prop} (fs : List (Option Dt)) (hn : fs.length = n) (hl : n ≤ 1000) (nD : H1 D = none)
    (hG : ∀ H, Same H1 H → G H) (ht : ∀ d, some d ∈ fs → Tu d)
    (hs : ∀ (i : Nat) (x : V) (H H' : Hp) (o : Option Dt) (C : V → Hp → Prop) (Z : Hp → Prop), i < n → fs[i]? = some o → Same H1 H → Y i H x H' → (∀ d, o = some d → ∀ y H4, Same H H4 → Is H4 y d → C y H4) → (o = none → ∀ H4, Same H H4 → Z H4) →
      g x (wipe σ vs) H' fun σ2 H2 => wipe σ2 vs = wipe σ vs ∧ tt σ2 H2 fun b H3 => if b = true then te σ2 H3 C else Z H3)
    (hd : ∀ H ws, Same H1 H → H D = some (.lst ws) → IsAll H ws (fs.filterMap id) → Qd H) :
    ∃ W : Nat → Nat → Hp → Prop, (∃ m, W 0 m (upd H1 D (.lst []))) ∧ ∀ i m H, W i m H →
      (J.stop i H ∧ Qd H) ∨ (J.go i H ∧ ∃ Nx : Hp → Prop, (∀ H', Nx H' → ∃ m', m' < m ∧ W (i + 1) m' H') ∧ ∀ x H', J.yld i H x H' → g x (wipe σ vs) H' fun σ2 H2 => wipe σ2 vs = wipe σ vs ∧ tt σ2 H2 fun b H3 =>
        if b = true then te σ2 H3 fun y H4 => ∃ acc, H4 D = some (.lst acc) ∧ acc.length < sizeLine ∧ Nx (upd H4 D (.lst (acc ++ [y]))) else Nx H3) := by
  refine lc_it wk (fun i H => ∃ ws, Same H1 H ∧ H D = some (.lst ws) ∧ IsAll H ws ((fs.take i).filterMap id)) ⟨[], sm_upd nD, upd_same, .nil⟩ (fun i H hi hp => ?_) (fun i x H H' hi hp hy => ?_) (fun H hp => ?_)
  · obtain ⟨ws, sm, _⟩ := hp
    exact hG H sm
  · obtain ⟨ws, sm, hD, hws⟩ := hp
    obtain ⟨o, ho⟩ := lt_get (l := fs) (i := i) (by omega)
    have hsub : TuAll ((fs.take i).filterMap id) := tuAll_iff.mpr fun d hd' => by
      obtain ⟨q, hq, e⟩ := List.mem_filterMap.mp hd'
      exact ht d (by rw [← show q = some d from e]; exact List.mem_of_mem_take hq)
    have hl2 := hws.length
    have hl3 := List.length_filterMap_le id (fs.take i)
    rw [List.length_take] at hl3
    refine hs i x H H' o _ _ hi ho sm hy (fun d hd' y H4 s4 hy4 => ?_) (fun hno H4 s4 => ?_)
    · have hD4 := s4 _ _ hD
      have tp : Tps H4 (upd H4 D (.lst (ws ++ [y]))) := Tps.upd hD4
      refine ⟨ws, hD4, small1000 (by omega), ws ++ [y], sm_upd2 (sm.trans s4) nD, upd_same, ?_⟩
      rw [fm_snoc ho, hd']
      exact IsAll.snoc (IsAll.tp ((Tps.of s4).trans tp) _ _ hsub hws) (Is.tp tp _ _ (ht d (hd' ▸ List.mem_of_getElem? ho)) hy4)
    · refine ⟨ws, sm.trans s4, s4 _ _ hD, ?_⟩
      rw [fm_snoc ho, hno]
      rw [show (none : Option Dt).toList = [] from rfl, List.append_nil]
      exact hws.sm s4
  · obtain ⟨ws, sm, hD, hws⟩ := hp
    rw [List.take_of_length_le (by omega)] at hws
    exact hd H ws sm hD hws
/-- .. without a test -/
theorem lc_tu {J : It} {n : Nat} {G : Hp → Prop} {Y : Nat → Hp → V → Hp → Prop} (wk : Walk J n G Y) {g : TG} {te : TE} {vs : List Nat} {σ : L2.St} {H1 : Hp} {D : Addr} {Qd : Hp → Prop} (ds : List Dt) (hn : ds.length = n) (hl : n ≤ 1000) (nD : H1 D = none)
    (hG : ∀ H, Same H1 H → G H) (ht : ∀ d ∈ ds, Tu d)
    (hs : ∀ (i : Nat) (x : V) (H H' : Hp) (d : Dt) (C : V → Hp → Prop), i < n → ds[i]? = some d → Same H1 H → Y i H x H' → (∀ y H4, Same H H4 → Is H4 y d → C y H4) →
      g x (wipe σ vs) H' fun σ2 H2 => wipe σ2 vs = wipe σ vs ∧ tYes σ2 H2 fun b H3 => if b = true then te σ2 H3 C else True)
    (hd : ∀ H ws, Same H1 H → H D = some (.lst ws) → IsAll H ws ds → Qd H) (mono : ∀ x σ H (R R' : L2.St → Hp → Prop), (∀ a b, R a b → R' a b) → g x σ H R → g x σ H R') :
    ∃ W : Nat → Nat → Hp → Prop, (∃ m, W 0 m (upd H1 D (.lst []))) ∧ ∀ i m H, W i m H →
      (J.stop i H ∧ Qd H) ∨ (J.go i H ∧ ∃ Nx : Hp → Prop, (∀ H', Nx H' → ∃ m', m' < m ∧ W (i + 1) m' H') ∧ ∀ x H', J.yld i H x H' → g x (wipe σ vs) H' fun σ2 H2 => wipe σ2 vs = wipe σ vs ∧ tYes σ2 H2 fun b H3 =>
        if b = true then te σ2 H3 fun y H4 => ∃ acc, H4 D = some (.lst acc) ∧ acc.length < sizeLine ∧ Nx (upd H4 D (.lst (acc ++ [y]))) else Nx H3) := by
  have fe : (ds.map some).filterMap id = ds := by
    rw [List.filterMap_map]
    exact List.filterMap_some
  refine lc_if wk (ds.map some) (by rw [List.length_map]; exact hn) hl nD hG (fun d hd' => ?_) (fun i x H H' o C Z hi ho sm hy hc _ => ?_) (fun H ws sm hD hws => hd H ws sm hD (fe ▸ hws))
  · obtain ⟨q, hq, e⟩ := List.mem_map.mp hd'
    cases e
    exact ht _ hq
  · rw [List.getElem?_map] at ho
    obtain ⟨d, hd', e⟩ := Option.map_eq_some_iff.mp ho
    refine mono _ _ _ _ _ (fun a b r => ⟨r.1, ?_⟩) (hs i x H H' d C hi hd' sm hy (hc d e.symm))
    exact tyes (iteT (show te a b C from by
      have r2 : (if true = true then te a b C else True) := r.2
      rw [if_pos rfl] at r2
      exact r2))
/-- gName is monotone -/
theorem mono_name {i : Nat} (x : V) (σ : L2.St) (H : Hp) (R R' : L2.St → Hp → Prop) (h : ∀ a b, R a b → R' a b) (q : gName i x σ H R) : gName i x σ H R' := h _ _ q
/-- .. over one name -/
theorem lc_nm {J : It} {n : Nat} {G : Hp → Prop} {Y : Nat → Hp → V → Hp → Prop} (wk : Walk J n G Y) {k : Nat} {te : TE} {vs : List Nat} {σ : L2.St} {H1 : Hp} {D : Addr} {Qd : Hp → Prop} (ds : List Dt) (hn : ds.length = n) (hl : n ≤ 1000) (nD : H1 D = none)
    (hG : ∀ H, Same H1 H → G H) (ht : ∀ d ∈ ds, Tu d) (hw : ∀ x, wipe ((wipe σ vs).set k (some x)) vs = wipe σ vs)
    (hs : ∀ (i : Nat) (x : V) (H H' : Hp) (d : Dt) (C : V → Hp → Prop), i < n → ds[i]? = some d → Same H1 H → Y i H x H' → (∀ y H4, Same H H4 → Is H4 y d → C y H4) → te ((wipe σ vs).set k (some x)) H' C)
    (hd : ∀ H ws, Same H1 H → H D = some (.lst ws) → IsAll H ws ds → Qd H) :
    ∃ W : Nat → Nat → Hp → Prop, (∃ m, W 0 m (upd H1 D (.lst []))) ∧ ∀ i m H, W i m H →
      (J.stop i H ∧ Qd H) ∨ (J.go i H ∧ ∃ Nx : Hp → Prop, (∀ H', Nx H' → ∃ m', m' < m ∧ W (i + 1) m' H') ∧ ∀ x H', J.yld i H x H' → gName k x (wipe σ vs) H' fun σ2 H2 => wipe σ2 vs = wipe σ vs ∧ tYes σ2 H2 fun b H3 =>
        if b = true then te σ2 H3 fun y H4 => ∃ acc, H4 D = some (.lst acc) ∧ acc.length < sizeLine ∧ Nx (upd H4 D (.lst (acc ++ [y]))) else Nx H3) :=
  lc_tu wk ds hn hl nD hG ht (fun i x H H' d C hi hd' sm hy hc => ⟨hw x, tyes (iteT (hs i x H H' d C hi hd' sm hy hc))⟩) hd mono_name
end Hp5

set_option maxHeartbeats 4000000
namespace Hp5
open PySem PySem.Spec PyProof.Rows L2
/-- so deep at most, none of more than a thousand -/
def Fit : Nat → Dt → Prop
  | _, .int _ => True
  | 0, _ => False
  | n + 1, .tup l => l.length ≤ 1000 ∧ ∀ d ∈ l, Fit n d
  | n + 1, .lst l => l.length ≤ 1000 ∧ ∀ d ∈ l, Fit n d
mutual
def tupD : Dt → Dt
  | .int i => .int i
  | .tup l => .tup (tupDs l)
  | .lst l => .tup (tupDs l)
def tupDs : List Dt → List Dt
  | [] => []
  | d :: r => tupD d :: tupDs r
end
theorem tupDs_map : ∀ l : List Dt, tupDs l = l.map tupD
  | [] => rfl
  | d :: r => by
    show tupD d :: tupDs r = _
    rw [tupDs_map r] <;> rfl
theorem tupDs_len (l : List Dt) : (tupDs l).length = l.length := by rw [tupDs_map, List.length_map]
theorem tupDs_get {l : List Dt} {i : Nat} {d e : Dt} (h : (tupDs l)[i]? = some e) (q : l[i]? = some d) : e = tupD d := by
  rw [tupDs_map, List.getElem?_map, q] at h
  exact (Option.some.inj h).symm
mutual
theorem tu_tupD : ∀ d : Dt, Tu (tupD d)
  | .int _ => trivial
  | .tup l => tu_tupDs l
  | .lst l => tu_tupDs l
theorem tu_tupDs : ∀ l : List Dt, TuAll (tupDs l)
  | [] => trivial
  | d :: r => ⟨tu_tupD d, tu_tupDs r⟩
end
section
variable {P : Program} {w : World} {K : PySem.W.Frag} {mg : Str → Option Value} {base : Heap}
def spTup (n : Nat) : Sp := fun vs H Q _ => ∃ (v : V) (d : Dt), vs = [v] ∧ Is H v d ∧ Fit n d ∧ ∀ v' H', Same H H' → Is H' v' (tupD d) → Q v' H'
theorem sc_tupled : FnScope ["value", "own"] ["value"] (defScope s_tupled) := ⟨rfl, rfl, rfl, by decide +kernel, rfl, by decide +kernel, by decide +kernel⟩
theorem clsLT : Paired ClsV [.ty "list", .ty "tuple"] [.type "list", .type "tuple"] := .cons (.ty _) (.cons (.ty _) .nil)
theorem any_i {K : PySem.W.Frag} : PySem.W.kitAny K (.type "int") [.type "list", .type "tuple"] = some false := kitAny_cons kt_il (fun _ => kitAny_cons kt_it (fun _ => kitAny_nil) (fun h => Bool.noConfusion h)) (fun h => Bool.noConfusion h)
theorem any_l {K : PySem.W.Frag} : PySem.W.kitAny K (.type "list") [.type "list", .type "tuple"] = some true := kitAny_cons kt_ll (fun h => Bool.noConfusion h) (fun _ => rfl)
theorem any_t {K : PySem.W.Frag} : PySem.W.kitAny K (.type "tuple") [.type "list", .type "tuple"] = some true := kitAny_cons kt_tl (fun _ => kitAny_cons kt_tt (fun h => Bool.noConfusion h) (fun _ => rfl)) (fun h => Bool.noConfusion h)
theorem two_line : 2 ≤ sizeLine := by decide
theorem ok_tupled_int (T : Tx K mg) (k n : Nat) (ih : (n = 0) ∨ ∃ m, n = m + 1 ∧ OkD P w K mg base k "tupled" ["value"] (spTup m)) : OkD P w K mg base (k + 1) "tupled" ["value"] (spTup n) := by
  refine T.d_tupled.ok sc_tupled (fun vs H Q E h => ?_) (fun cdv A outer s H vs Q E hr h => ?_)
  · obtain ⟨v, d, rfl, _⟩ := h
    rfl
  · obtain ⟨v, d, rfl, hv, hf, q⟩ := h
    cases d with
    | int i =>
      cases hv
      refine ⟨_, pss_one (ps_ret (pe_ifExp (pt_val (pe_callB call_isiT rfl T.m_isinstance bt_isinstance (pa_cons (pv 0) (pa_cons (pe_tup (pa_cons (pe_bltn rfl T.m_list bt_list rfl (v := .ty "list")) (pa_cons (pe_bltn rfl T.m_tuple bt_tuple rfl (v := .ty "tuple")) pa_nil))) pa_nil))))
        pe_nv (pv 0))), ?_⟩
      refine ⟨_, rfl, two_line, fun p np => ?_⟩
      refine ⟨_, p, _, _, _, false, rfl, upd_same, clsLT, .base (.int i), any_i, false, rfl, iteF ?_⟩
      exact ⟨_, rfl, q _ _ (sm_upd np) (.int i)⟩
    | tup l =>
      obtain ⟨a, us, rfl, ha, hl⟩ := hv.tupE
      rcases ih with rfl | ⟨m, rfl, ih⟩
      · exact hf.elim
      obtain ⟨hlen, hfs⟩ := hf
      refine ⟨_, pss_one (ps_ret (pe_ifExp (pt_val (pe_callB call_isiT rfl T.m_isinstance bt_isinstance (pa_cons (pv 0) (pa_cons (pe_tup (pa_cons (pe_bltn rfl T.m_list bt_list rfl (v := .ty "list")) (pa_cons (pe_bltn rfl T.m_tuple bt_tuple rfl (v := .ty "tuple")) pa_nil))) pa_nil))))
        (pe_callTy call_tuple_of rfl T.m_tuple bt_tuple (pa_cons (pe_lc (own := [("own", 1)]) (g := gName 1) (tt := tYes) rfl sc_tupled.nd (pi_tup (pv 0)) (blkOk_by (N := ["value", "own"]) (sc := defScope s_tupled) (by decide +kernel))
          (fun _ _ _ _ _ => pg_name (i := 1) sc_tupled.nd rfl (Or.inl rfl)) (fun _ _ _ _ _ => pts_nil) (fun _ _ _ _ _ => pe_c ih hr (Nat.le_refl _) (pa_cons (pv 1) pa_nil))) pa_nil)) (pv 0))), ?_⟩
      refine ⟨_, rfl, two_line, fun p np => ?_⟩
      refine ⟨_, p, _, _, _, true, rfl, upd_same, clsLT, .base (.tup (sm_upd np _ _ ha)), any_t, true, rfl, iteT ?_⟩
      refine ⟨_, rfl, a, rfl, ⟨us, SqT.of (sm_upd np _ _ ha)⟩, fun D nD => ?_⟩
      have hul : us.length = l.length := hl.length
      refine lc_nm (walk_tup (K := K) (a := a) (xs := us)) (tupDs l) (by rw [tupDs_len, hul]) (by omega) nD (fun H' sm => SqT.of (sm _ _ (sm_upd np _ _ ha))) (fun d hd => tuAll_iff.mp (tu_tupDs l) d hd) (fun x => rfl)
        (fun i x H1 H2 d C hi hd sm hy hc => ?_) (fun H1 ws sm hD hws => ?_)
      · obtain ⟨rfl, hx⟩ := hy
        obtain ⟨d0, hd0, hxd⟩ := hl.getV hx
        rw [tupDs_get hd hd0] at hc
        exact ⟨_, rfl, x, d0, rfl, (hxd.sm (sm_upd np)).sm sm, hfs d0 (List.mem_of_getElem? hd0), hc⟩
      · exact ⟨D, ws, rfl, .inl ⟨SqL.of hD, fun r nr => q _ _ (((sm_upd np).trans sm).trans (sm_upd nr)) (.tup upd_same (hws.sm (sm_upd nr)))⟩⟩
    | lst l =>
      obtain ⟨a, us, rfl, ha, _, hl⟩ := hv.lstE
      rcases ih with rfl | ⟨m, rfl, ih⟩
      · exact hf.elim
      obtain ⟨hlen, hfs⟩ := hf
      refine ⟨_, pss_one (ps_ret (pe_ifExp (pt_val (pe_callB call_isiT rfl T.m_isinstance bt_isinstance (pa_cons (pv 0) (pa_cons (pe_tup (pa_cons (pe_bltn rfl T.m_list bt_list rfl (v := .ty "list")) (pa_cons (pe_bltn rfl T.m_tuple bt_tuple rfl (v := .ty "tuple")) pa_nil))) pa_nil))))
        (pe_callTy call_tuple_of rfl T.m_tuple bt_tuple (pa_cons (pe_lc (own := [("own", 1)]) (g := gName 1) (tt := tYes) rfl sc_tupled.nd (pi_list (pv 0)) (blkOk_by (N := ["value", "own"]) (sc := defScope s_tupled) (by decide +kernel))
          (fun _ _ _ _ _ => pg_name (i := 1) sc_tupled.nd rfl (Or.inl rfl)) (fun _ _ _ _ _ => pts_nil) (fun _ _ _ _ _ => pe_c ih hr (Nat.le_refl _) (pa_cons (pv 1) pa_nil))) pa_nil)) (pv 0))), ?_⟩
      refine ⟨_, rfl, two_line, fun p np => ?_⟩
      refine ⟨_, p, _, _, _, true, rfl, upd_same, clsLT, .base (.lst (sm_upd np _ _ ha)), any_l, true, rfl, iteT ?_⟩
      refine ⟨_, rfl, a, rfl, ⟨us, SqL.of (sm_upd np _ _ ha)⟩, fun D nD => ?_⟩
      have hul : us.length = l.length := hl.length
      refine lc_nm (walk_list (K := K) (a := a) (xs := us)) (tupDs l) (by rw [tupDs_len, hul]) (by omega) nD (fun H' sm => SqL.of (sm _ _ (sm_upd np _ _ ha))) (fun d hd => tuAll_iff.mp (tu_tupDs l) d hd) (fun x => rfl)
        (fun i x H1 H2 d C hi hd sm hy hc => ?_) (fun H1 ws sm hD hws => ?_)
      · obtain ⟨rfl, hx⟩ := hy
        obtain ⟨d0, hd0, hxd⟩ := hl.getV hx
        rw [tupDs_get hd hd0] at hc
        exact ⟨_, rfl, x, d0, rfl, (hxd.sm (sm_upd np)).sm sm, hfs d0 (List.mem_of_getElem? hd0), hc⟩
      · exact ⟨D, ws, rfl, .inl ⟨SqL.of hD, fun r nr => q _ _ (((sm_upd np).trans sm).trans (sm_upd nr)) (.tup upd_same (hws.sm (sm_upd nr)))⟩⟩
theorem ok_tupled (T : Tx K mg) : ∀ n : Nat, OkD P w K mg base (n + 1) "tupled" ["value"] (spTup n)
  | 0 => ok_tupled_int T 0 0 (.inl rfl)
  | n + 1 => ok_tupled_int T (n + 1) (n + 1) (.inr ⟨n, rfl, ok_tupled T n⟩)
end
end Hp5

set_option maxHeartbeats 4000000
/-! enumerate of a tuple, in the layer's words -/
namespace Hp5
open PySem PySem.Spec PyProof.Rows L2
/-- the tuple at a as it stands at each turn, its items with their places in new pairs -/
def IteT (K : PySem.W.Frag) (a : Addr) : It :=
  ⟨fun i H => ∃ (xs : List V) (x : V), SqT K H a xs ∧ xs[i]? = some x,
   fun i H v H' => ∃ T x, v = .ref T ∧ H T = none ∧ H' = upd H T (.tup [.int (i : Nat), x]) ∧ ∀ xs, SqT K H a xs → xs[i]? = some x,
   fun i H => ∃ xs : List V, SqT K H a xs ∧ xs.length ≤ i⟩
theorem two_fp {b e it : Addr} (h : b ∈ [e, it]) : b = e ∨ b = it := by simpa using h
theorem turn_enT {P : Program} {w : World} {K : PySem.W.Frag} {elts : List Expr} {kk : Nat} {tpos : Pos} (a e it : Addr) :
    Turn P w K (.Tuple elts kk tpos) (IteT K a) [e, it] e (fun i h => (∃ old, IsEnum h e it ((i : Nat) : Int) old) ∧ h.IsTupleIter it a i ∧ e ≠ it) where
  mem := List.mem_cons_self
  obj := fun i h st b hb => by
    obtain ⟨⟨old, he⟩, ⟨o, ho, _, hd⟩, _⟩ := st
    rcases two_fp hb with rfl | rfl
    · exact ⟨_, he, fun v q => nomatch q⟩
    · exact ⟨o, ho, fun v q => by rw [hd] at q; cases q⟩
  keep := fun i h h' st k => by
    obtain ⟨⟨old, he⟩, hi, hne⟩ := st
    exact ⟨⟨old, k e List.mem_cons_self _ he⟩, hi.at fun o q => k it (List.mem_cons_of_mem _ List.mem_cons_self) o q, hne⟩
  item := by
    intro X hP hw hK hc i pins s σ H E I hf st hg
    subst hP hw hK
    obtain ⟨⟨old, he⟩, hit, hne⟩ := st
    obtain ⟨xs, x, hq, hx⟩ := hg
    obtain ⟨its, rv, pt, hz⟩ := I.tuple hq
    obtain ⟨u, hu, ru⟩ := rv.get hx
    have hel : e < s.heap.objs.size := Heap.lt_size he
    have hil : it < s.heap.objs.size := by
      obtain ⟨_, q, _⟩ := hit
      exact Heap.lt_size q
    have hae : a ≠ e := by
      rintro rfl
      obtain ⟨o, ho, hcl, _⟩ := pt
      rw [he] at ho
      cases ho
      have z : Value.type "enumerate" = .type "tuple" := hcl
      exact absurd (Value.type.inj z) (by decide)
    have hai : a ≠ it := by
      rintro rfl
      obtain ⟨o, ho, hcl, _⟩ := pt
      obtain ⟨o2, ho2, hcl2, _⟩ := hit
      rw [ho] at ho2
      cases ho2
      rw [hcl] at hcl2
      exact absurd (Value.type.inj hcl2) (by decide)
    have hh : X.A.in1.handled = none := I.ok.hd hc
    have hlt : i < its.toArray.size := by
      have := (List.getElem?_eq_some_iff.mp hu).1
      simpa using this
    refine wpAny_pyNext_enum_itemD (i := i) (Draws.tuple hh it a hai its.toArray) he ⟨hit, pt⟩ hlt hne (by simp [hne, hae.symm]) fun u' h' tk hu' ho hst hT hsz hk => ?_
    have eu : u' = u := by
      have h1 : its.toArray[i]? = some u := by simpa using hu
      rw [h1] at hu'
      exact (Option.some.inj hu').symm
    subst eu
    refine ⟨_, rfl, wpAny_letOwnedTupleGo_enum (s := { s with heap := h', toks := tk + 1 }) ho fun h'' he' sb => ?_⟩
    have hT2 : h''.get? s.heap.objs.size = some { cls := .type "tuple", data := .seq #[.int i tk, u'] } := (sb.2 _ (Nat.ne_of_gt hel)).trans hT
    have new : ObjOk X.prog X.w (upd H s.heap.objs.size (.tup [.int (i : Nat), x])) h'' s.heap.objs.size (.tup [.int (i : Nat), x]) :=
      ⟨by show 2 ≤ sizeLine; decide, [.int i tk, u'], .cons ⟨_, rfl⟩ (.cons ru .nil), ⟨_, hT2, rfl, _, rfl⟩⟩
    have I1 : Inv X pins σ (upd H s.heap.objs.size (.tup [.int (i : Nat), x])) { s with heap := h'', toks := tk + 1 } :=
      I.turnedNew (ch := [e, it]) (fun b ob hb q => by
        have n1 : b ≠ e := fun z => hb (by rw [z]; exact List.mem_cons_self)
        have n2 : b ≠ it := fun z => hb (by rw [z]; exact List.mem_cons_of_mem _ List.mem_cons_self)
        exact (sb.2 b n1).trans (hk b ob n1 n2 q)) hf (Nat.le_refl _) new
    refine ⟨.ref s.heap.objs.size, _, I1, rfl, ⟨_, x, rfl, I.hok.fresh (Nat.le_refl _), rfl, fun ys hy => by rw [I.tuple_inj hy hq]; exact hx⟩, ⟨⟨u', ?_⟩, hst.1.at fun o q => (sb.2 it (Ne.symm hne)).trans q, hne⟩, fun b hb => ?_⟩
    · rw [show ((i + 1 : Nat) : Int) = (i : Int) + 1 by omega]
      exact he'
    · have hb' : b < s.heap.objs.size := by
        rcases two_fp hb with rfl | rfl
        · exact hel
        · exact hil
      rw [upd_ne (Nat.ne_of_lt hb')]
      exact (hf b hb).1
  done := by
    intro X hP hw hK hc i pins s σ H E I hf st hg
    subst hP hw hK
    obtain ⟨⟨old, he⟩, hit, hne⟩ := st
    obtain ⟨xs, hq, hx⟩ := hg
    obtain ⟨its, rv, pt, hz⟩ := I.tuple hq
    obtain ⟨f0, f1, f2, f3, f4, f5⟩ := hf it (List.mem_cons_of_mem _ List.mem_cons_self)
    have hai : a ≠ it := by
      rintro rfl
      obtain ⟨o, ho, hcl, _⟩ := pt
      obtain ⟨o2, ho2, hcl2, _⟩ := hit
      rw [ho] at ho2
      cases ho2
      rw [hcl] at hcl2
      exact absurd (Value.type.inj hcl2) (by decide)
    have hl := rv.length
    have hh : X.A.in1.handled = none := I.ok.hd hc
    -- at the end the place is the length or beyond
    have D : Draws X.prog X.w X.A.in1 it [it, a] i (fun _ _ => True) (fun j h => j = i ∧ h.IsTupleIter it a j ∧ h.IsTuple a its.toArray) := {
      live := fun _ _ st => let ⟨o, ho, _⟩ := st.2.1; ⟨o, ho⟩
      frame := fun _ _ _ st hk => ⟨st.1, st.2.1.at fun o q => hk it List.mem_cons_self o q, st.2.2.at fun o q => hk a (List.mem_cons_of_mem _ List.mem_cons_self) o q⟩
      item := fun j s Q E hj st _ => absurd st.1 (Nat.ne_of_lt hj)
      done := fun s Q E st hE => wpAny_nextOf_tuple_end hh st.2.1 st.2.2 (by simp; omega) hE }
    exact wpAny_pyNext_enum_endD D he ⟨rfl, hit, pt⟩ fun h' eb => ⟨rfl, I.turned (t' := s.toks) (fun b o hb q => eb b o hb q) f0 f1 f3 f4 f5⟩
  self := fun A i s Q E st h => let ⟨⟨_, he⟩, _⟩ := st; wpAny_pyIter_enum he h
/-- enumerate(t), t a tuple, at the library's level -/
theorem mk_enT {t : Addr} {items : Array Value} :
    Meets (Builtin.«enumerate.__new__» ⟨[.type "enumerate", .ref t], []⟩) (fun _ R s => s.heap.IsTuple t items ∧
      R (.ok (.ret (.ref (s.heap.push { cls := .type "tuple_iterator", data := .fields #[.ref t, .int 0 0] }).objs.size)))
        { s with heap := (s.heap.push { cls := .type "tuple_iterator", data := .fields #[.ref t, .int 0 0] }).push { cls := .type "enumerate", data := .fields #[.none, .bool false, .ref s.heap.objs.size, rawInt 0, .none, .none] } }) :=
  .of_wp fun prog w A R s h => by
    obtain ⟨hp, g, d, tk, os⟩ := s
    obtain ⟨h1, h⟩ := h
    have hsub := sub_enumerate
    have q1 : ∀ {A' : Around} {E : Value → Shared → Prop} {Q : Value → Shared → Prop}, Q (.ref hp.objs.size) ⟨hp.push { cls := .type "tuple_iterator", data := .fields #[.ref t, .int 0 0] }, g, d, tk, os⟩ → wpAny (model prog w) A' (pyIter (.ref t)) Q E ⟨hp, g, d, tk, os⟩ :=
      fun q => (begins_tuple t items).iter prog w _ _ ⟨hp, g, d, tk, os⟩ _ h1 q
    wp_walk using q1
    refine wpAny_stack_any fun st => wpAny_pure ?_
    split
    · rename_i c _ _ _ _ _
      cases (c == Value.type "enumerate")
      · wp_walk using q1
        exact ⟨_, rfl, h⟩
      · wp_walk using q1
        exact ⟨_, rfl, h⟩
    · wp_walk using q1
      exact ⟨_, rfl, h⟩
theorem call_enT {prog : Program} {w : World} {A : Around} {E : Value → Shared → Prop} {s : Shared} {t : Addr} {items : Array Value} {Q : Value → Shared → Prop} (hT : s.heap.IsTuple t items)
    (h : ∀ h', IsEnum h' (s.heap.objs.size + 1) s.heap.objs.size 0 .none → h'.IsTupleIter s.heap.objs.size t 0 → h'.objs.size = s.heap.objs.size + 2 →
      (∀ b o, s.heap.get? b = some o → h'.get? b = some o) → Q (.ref (s.heap.objs.size + 1)) { s with heap := h' }) :
    wpAny (model prog w) A (call (.type "enumerate") [.ref t]) Q E s := by
  refine callType_new F.called_enumerate (by decide) (F.typeCall_enumerate_1 _) (F.newCall_enumerate_1 _) (fun obj => F.args_object_init_2 obj _) F.entry_enumerate_new
    mk_enT ⟨hT, ?_⟩
  have hz : (s.heap.push { cls := .type "tuple_iterator", data := .fields #[.ref t, .int 0 0] }).objs.size = s.heap.objs.size + 1 := Heap.size_push ..
  have q := Heap.get?_push_size (s.heap.push { cls := .type "tuple_iterator", data := .fields #[.ref t, .int 0 0] })
      (o := { cls := .type "enumerate", data := .fields #[.none, .bool false, .ref s.heap.objs.size, rawInt 0, .none, .none] }) rfl
  show _ ∧ _
  rw [hz]
  rw [hz] at q
  refine ⟨⟨_, q, rfl⟩, h _ q ⟨_, Heap.get?_push_of_some _ (Heap.get?_push_size _ rfl), rfl, rfl⟩ (by rw [Heap.size_push, hz]) fun b o x => Heap.get?_push_of_some _ (Heap.get?_push_of_some _ x)⟩
/-- for i, x in enumerate(t), t a tuple -/
def iEnT (K : PySem.W.Frag) (ta : TA) : TI := fun σ H R => ta σ H fun vs H1 => ∃ a xs, vs = [.ref a] ∧ SqT K H1 a xs ∧ R (IteT K a) H1
theorem pi_enT {X : Cx} {e : Expr} {ta : TA} {p pos tpos : Pos} {elts : List Expr} {kk : Nat} (hg : Gl X "enumerate") (hm : X.mg "enumerate" = none) (ha : PA X [e] ta) (hs : starEach [e] X.env = [(false, eval e X.env)] := by rfl) :
    PI X (.Tuple elts kk tpos) (.Call (.Name "enumerate" p) [e] [] pos) (iEnT X.K ta) := by
  refine ⟨fun pins s σ H R I h => ?_⟩
  refine Call_ (ld_blt I hg hm boot_enumerate (PyProof.Rows.callWith_type1 (thn (ha.run pos pins s σ H _ I h) fun us s1 ⟨vs, H1, I1, r1, q1⟩ => ?_) hs rfl))
  obtain ⟨a, xs, rfl, hq, q⟩ := q1
  cases r1 with
  | cons r rr =>
    cases rr
    cases r
    obtain ⟨its, rv, pt, hz⟩ := I1.tuple hq
    refine call_enT (show s1.heap.IsTuple a its.toArray from pt) fun h' he hit hsz hk => wpAny_pyIter_enum he ?_
    have I2 : Inv X pins σ H1 { s1 with heap := h' } := I1.kept (t' := s1.toks) hk
    refine ⟨s1.heap.objs.size + 1, [s1.heap.objs.size + 1, s1.heap.objs.size], _, _, H1, rfl, I2, turn_enT a (s1.heap.objs.size + 1) s1.heap.objs.size, ⟨⟨.none, he⟩, hit, Nat.succ_ne_self _⟩, fun b hb => ?_, q⟩
    have hle : s1.heap.objs.size ≤ b := by
      rcases two_fp hb with rfl | rfl
      · exact Nat.le_add_right _ _
      · exact Nat.le_refl _
    exact I1.fpOk hle (I1.hok.fresh hle)
theorem walk_enT {K : PySem.W.Frag} {a : Addr} {xs : List V} : Walk (IteT K a) xs.length (fun H => SqT K H a xs) (YPair (fun i => some (.int (i : Nat))) (fun i => xs[i]?)) := by
  refine ⟨fun i _ hi q => ⟨xs, xs[i], q, by simp [hi]⟩, fun _ q => ⟨xs, q, Nat.le_refl _⟩, fun i H v H' _ q y => ?_⟩
  obtain ⟨T, x, h1, h2, h3, h4⟩ := y
  exact ⟨T, .int (i : Nat), x, h1, h2, h3, rfl, h4 xs q⟩
theorem walk_zipT {K : PySem.W.Frag} {a b : Addr} {xs ys : List V} {n : Nat} (hn : n = min xs.length ys.length) : Walk (RZ.ItzT K a b) n (fun H => SqT K H a xs ∧ SqT K H b ys) (YPair (fun i => xs[i]?) (fun i => ys[i]?)) := by
  subst hn
  refine ⟨fun i _ hi q => ?_, fun _ q => ⟨xs, ys, q.1, q.2, by omega⟩, fun i H v H' _ q y => ?_⟩
  · have h1 : i < xs.length := by omega
    have h2 : i < ys.length := by omega
    exact ⟨xs, ys, xs[i], ys[i], q.1, q.2, by simp [h1], by simp [h2]⟩
  · obtain ⟨T, x, z, h1, h2, h3, h4, h5⟩ := y
    exact ⟨T, x, z, h1, h2, h3, h4 xs q.1, h5 ys q.2⟩
end Hp5

set_option maxHeartbeats 4000000
/-! dicts whose keys are tuples: dict(d), d == e -/
namespace Hp5
open PySem PySem.Spec PyProof.Rows L2
theorem intsAre_get : ∀ {us : List Value} {ns : List Int} {i : Nat} {n : Int}, IntsAre us ns → ns[i]? = some n → ∃ t, us[i]? = some (.int n t)
  | _, _, _, _, .nil, h => by simp at h
  | _, _, 0, _, .cons n t _, h => by
    simp at h
    exact ⟨t, by simp [h]⟩
  | _, _, i + 1, _, .cons _ _ r, h => by
    obtain ⟨t, e⟩ := intsAre_get (i := i) r (by simpa using h)
    exact ⟨t, by simpa using e⟩
theorem IntsAre.length : ∀ {us : List Value} {ns : List Int}, IntsAre us ns → us.length = ns.length
  | _, _, .nil => rfl
  | _, _, .cons _ _ r => congrArg (· + 1) (IntsAre.length r)
section
variable {prog : Program} {w : World} {N : Type} [DecidableEq N] {knd : HeapKind prog w N} {A : Around} {E : Value → Shared → Prop} {s : Shared}
/-- dict(d), the keys of d objects whose hashes differ -/
theorem call_dict_ofH {o : Addr} {more : List (N × Addr × Value)} {Q : Value → Shared → Prop} (hu : knd.room A.in1.in1) (hoS : (o == sysModules) = false) (ho : s.heap.DictOfH knd o more) (hsz : more.length ≤ sizeLine)
    (hty : ∀ x ∈ more, s.TypeIs (.ref x.2.1) "tuple") (hap : (more.map fun x => knd.hash x.1).Nodup) (hst : ∀ x ∈ more, knd.is (s.heap.push { cls := .type "dict", data := .dict #[] }) x.1 x.2.1)
    (h : ∀ h', h'.DictOfH knd s.heap.objs.size more → Heap.SameBut s.heap.objs.size (s.heap.push { cls := .type "dict", data := .dict #[] }) h' → Q (.ref s.heap.objs.size) { s with heap := h' }) :
    wpAny (model prog w) A (call (.type "dict") [.ref o]) Q E s := by
  refine callType_codes (Q₁ := fun obj s₁ => obj = .ref s.heap.objs.size ∧ s₁ = { s with heap := s.heap.push { cls := .type "dict", data := .dict #[] } }) F.kt_called_dict (F.kt_typeCall_dict_1 _) F.entry_dict_init (kt_code_dict_new _ ⟨rfl, rfl⟩) ?_
  rintro obj s₁ ⟨rfl, rfl⟩
  have hnew : (s.heap.push { cls := .type "dict", data := .dict #[] }).DictOfH knd s.heap.objs.size [] := Heap.DictOfH.new s.heap
  obtain ⟨oo, es, ep, hoo, hc, hdat, he, his, hn⟩ := id ho
  have ho' : (s.heap.push { cls := .type "dict", data := .dict #[] }).DictOfH knd o more := ⟨oo, es, ep, Heap.get?_push_of_some _ hoo, hc, hdat, he, hst, hn⟩
  have hdo : s.heap.objs.size ≠ o := fun e => absurd (Heap.lt_size hoo) (by rw [e]; exact Nat.lt_irrefl _)
  refine ⟨hnew.typeIs, F.args_dict_init_2 _ _, ?_⟩
  unfold Builtin.«dict.__init__»
  refine wpAny_bind ?_
  unfold Builtin.Dict.selfAndRest
  refine wpAny_bind (wpAny_notOrdered_dict hnew.typeIs ?_)
  show wpAny _ _ (pure (s.heap.objs.size, [Value.ref o])) _ _ _
  refine wpAny_pure ?_
  refine updateFrom_dictH (A := A.in1) (knd := knd) (kvs := []) (s := { s with heap := s.heap.push { cls := .type "dict", data := .dict #[] } }) .none hu hdo hoS hnew ho' (.inr ⟨fun x hx => ?_, hap⟩) (by simpa using hsz) fun h' hd' _ hs' => ?_
  · obtain ⟨ob, e1, e2⟩ := hty x hx
    exact ⟨ob, Heap.get?_push_of_some _ e1, e2⟩
  · rw [storedAllH_nil_of_nodup more hn] at hd'
    exact ⟨rfl, h h' hd' hs'⟩
/-- two dicts of one row of keys, their values numbers -/
theorem same_pairsH {nm : String} {a b : Addr} {xa xb : List (N × Addr × Value)} {ns ms : List Int} {Q : Bool → Shared → Prop} (hu : knd.room A) (ha : (a == sysModules) = false) (hb : (b == sysModules) = false)
    (da : s.heap.DictOfH knd a xa) (db : s.heap.DictOfH knd b xb) (hk : xa.map (·.1) = xb.map (·.1)) (hx : IntsAre (xa.map fun x => x.2.2) ns) (hy : IntsAre (xb.map fun x => x.2.2) ms)
    (h : Q (decide (ns = ms)) s) : wpAny (model prog w) A (Builtin.Dict.samePairs nm a b) Q E s := by
  obtain ⟨oa, es, ep, hoa, _, hda, hea, hisa, hna⟩ := da
  obtain ⟨ob, et, eq, hob, _, hdb, heb, hisb, hnb⟩ := db
  have hsa : es.size = xa.length := size_of_entries hea
  have hsb : et.size = xb.length := size_of_entries heb
  have hlen : xa.length = xb.length := by
    have := congrArg List.length hk
    simpa using this
  have hln : ns.length = xa.length := by
    have := IntsAre.length hx
    rw [List.length_map] at this
    exact this.symm
  have hlm : ms.length = xb.length := by
    have := IntsAre.length hy
    rw [List.length_map] at this
    exact this.symm
  unfold Builtin.Dict.samePairs Builtin.Dict.showsAll
  rw [if_neg (show ¬ (a == sysModules) = true by rw [ha]; exact Bool.false_ne_true), if_neg (show ¬ (b == sysModules) = true by rw [hb]; exact Bool.false_ne_true)]
  refine wpAny_bind (wpAny_pure (wpAny_bind (wpAny_pure ?_)))
  refine wpAny_bind (wpAny_dictEntries hoa hda ?_)
  dsimp only
  refine wpAny_bind (wpAny_dictEntries hob hdb ?_)
  rw [if_neg (by rw [hsa, hsb, hlen]; simp)]
  refine wpAny_bind (wpAny_dictEpoch hoa hda ?_)
  refine wpAny_bind ?_
  rw [Std.Legacy.Range.forIn_eq_forIn_range']
  simp only [Std.Legacy.Range.size, Nat.sub_zero, Nat.add_sub_cancel, Nat.div_one]
  refine wpAny_forIn_list _
    (fun left q s' => s' = s ∧ q = (none, ()) ∧ ∃ i, left = List.range' i (es.size - i) ∧ i ≤ es.size ∧ ns.take i = ms.take i)
    _ ?_ ?_ _ _ ⟨rfl, rfl, 0, by simp, Nat.zero_le _, rfl⟩
  · rintro x left q s' ⟨rfl, rfl, i, hr, hi, hpre⟩
    have hlt : i < es.size := by
      rcases Nat.lt_or_ge i es.size with h1 | h1
      · exact h1
      · rw [Nat.sub_eq_zero_of_le h1] at hr
        simp at hr
    obtain ⟨rfl, hrest⟩ : x = i ∧ left = List.range' (i + 1) (es.size - (i + 1)) := by
      rw [show es.size - i = (es.size - (i + 1)) + 1 by omega, List.range'_succ] at hr
      injection hr with h1 h2
      exact ⟨h1, h2⟩
    refine wpAny_bind (wpAny_dictEntries hoa hda ?_)
    obtain ⟨⟨k, p, v⟩, hxa⟩ : ∃ y, xa[x]? = some y := ⟨_, List.getElem?_eq_getElem (show x < xa.length by omega)⟩
    obtain ⟨⟨k2, p2, v2⟩, hxb⟩ : ∃ y, xb[x]? = some y := ⟨_, List.getElem?_eq_getElem (show x < xb.length by omega)⟩
    have ek : k2 = k := by
      have e1 : (xa.map (·.1))[x]? = some k := by rw [List.getElem?_map, hxa] <;> rfl
      have e2 : (xb.map (·.1))[x]? = some k2 := by rw [List.getElem?_map, hxb] <;> rfl
      rw [hk, e2] at e1
      exact Option.some.inj e1
    subst ek
    have ee : es[x]? = some (entryOfKey knd (k2, p, v)) := by rw [entry_at hea, hxa] <;> rfl
    have ef : et[x]? = some (entryOfKey knd (k2, p2, v2)) := by rw [entry_at heb, hxb] <;> rfl
    obtain ⟨n, hn⟩ : ∃ n, ns[x]? = some n := ⟨_, List.getElem?_eq_getElem (show x < ns.length by omega)⟩
    obtain ⟨m, hm⟩ : ∃ n, ms[x]? = some n := ⟨_, List.getElem?_eq_getElem (show x < ms.length by omega)⟩
    obtain ⟨tn, hvn⟩ : ∃ t, v = .int n t := by
      have e1 : (xa.map fun y => y.2.2)[x]? = some v := by rw [List.getElem?_map, hxa] <;> rfl
      obtain ⟨t, e2⟩ := intsAre_get hx hn
      rw [e2] at e1
      exact ⟨t, (Option.some.inj e1).symm⟩
    obtain ⟨tm, hvm⟩ : ∃ t, v2 = .int m t := by
      have e1 : (xb.map fun y => y.2.2)[x]? = some v2 := by rw [List.getElem?_map, hxb] <;> rfl
      obtain ⟨t, e2⟩ := intsAre_get hy hm
      rw [e2] at e1
      exact ⟨t, (Option.some.inj e1).symm⟩
    subst hvn hvm
    rw [ee]
    show wpAny _ _ (holding [.ref p, .int n tn] (dictFind b (.ref p) (knd.hash k2) >>= _) >>= _) _ _ _
    refine wpAny_bind (wpAny_holding (wpAny_bind (wpAny_dictFind_heap hu (hisa _ (List.mem_of_getElem? hxa)) hob hdb heb hisb hnb (fun hno => absurd hxb (hno x _)) (fun j pj hj => ?_))))
    have ej : j = x := idxH_unique hnb hj hxb
    subst ej
    refine wpAny_bind (wpAny_dictEntries hob hdb ?_)
    rw [ef]
    show wpAny _ _ (holding [.int m tm] (eqBool (.int n tn) (.int m tm))) _ _ _
    refine wpAny_holding (wpAny_eqBool_int ?_)
    by_cases hnm : n = m
    · subst hnm
      rw [beq_self_eq_true, if_neg (by simp)]
      refine wpAny_bind (wpAny_dictEpoch hoa hda ?_)
      rw [if_neg (by simp)]
      refine wpAny_pure ⟨rfl, rfl, j + 1, hrest, hlt, ?_⟩
      rw [List.take_add_one, List.take_add_one, hn, hm, hpre]
    · rw [beq_eq_false_iff_ne.mpr hnm, if_pos (by rfl)]
      have hne : ns ≠ ms := by
        rintro rfl
        rw [hn] at hm
        exact hnm (Option.some.inj hm)
      rw [decide_eq_false hne] at h
      exact wpAny_pure (wpAny_pure h)
  · rintro q s' ⟨rfl, rfl, i, hr, hi, hpre⟩
    have hin : i = es.size := by
      rcases Nat.lt_or_ge i es.size with h1 | h1
      · rw [show es.size - i = (es.size - (i + 1)) + 1 by omega, List.range'_succ] at hr
        exact nomatch hr
      · exact Nat.le_antisymm hi h1
    rw [List.take_of_length_le (by omega), List.take_of_length_le (by omega)] at hpre
    rw [decide_eq_true hpre] at h
    exact wpAny_pure h
/-- d == e of such dicts -/
theorem eq_dictsH {a b : Addr} {xa xb : List (N × Addr × Value)} {ns ms : List Int} {Q : Value → Shared → Prop} (hu : knd.room A.in1) (hc : A.units < cLine) (ha : (a == sysModules) = false) (hb : (b == sysModules) = false)
    (da : s.heap.DictOfH knd a xa) (db : s.heap.DictOfH knd b xb) (hk : xa.map (·.1) = xb.map (·.1)) (hx : IntsAre (xa.map fun x => x.2.2) ns) (hy : IntsAre (xb.map fun x => x.2.2) ms)
    (h : Q (.bool (decide (ns = ms))) s) : wpAny (model prog w) A (compareOp .Eq (.ref a) (.ref b)) Q E s := by
  refine wpAny_richCompare_same_room (op := .Eq) da.typeIs db.typeIs PySem.F.slot_dict_eq (wpAny_call_entry PySem.F.slot_dict_eq da.typeIs PySem.F.entry_dict_eq ?_ (PySem.F.args_dict_eq_2 _ _)) hc
  show wpAny _ _ (Builtin.Dict.dictSlotArgs "__eq__" ⟨[.ref a, .ref b], []⟩ >>= _) _ _ s
  refine wpAny_bind ?_
  unfold Builtin.Dict.dictSlotArgs
  refine wpAny_bind (wpAny_notOrdered_dict da.typeIs ?_)
  show wpAny _ _ (pure (Value.ref a, Value.ref b)) _ _ s
  refine wpAny_pure ?_
  refine wpAny_bind (wpAny_isInstance (T := "dict") db.typeIs PySem.F.sub_dict_dict ?_)
  simp only [Bool.not_true, Bool.false_eq_true, if_false]
  refine wpAny_bind (wpAny_pure (wpAny_bind (wpAny_pure ?_)))
  refine wpAny_bind (same_pairsH hu ha hb da db hk hx hy ?_)
  refine wpAny_pure ⟨_, rfl, ?_, ?_⟩
  · exact fun x => nomatch x
  · simpa using h
end
/-- dict(d), tuples for keys -/
theorem cr_dictT {X : Cx} (hu : X.A.units + 8 < cLine) : CallR X (.type "dict") (fun xs H Q => ∃ d kvs, xs = [.ref d] ∧ H d = some (.dT kvs) ∧ (kvs.map fun p => (tupleKind (mixKind X.prog X.w)).hash p.1).Nodup ∧
    ∀ p, H p = none → Q (.ref p) (upd H p (.dT kvs))) := by
  intro pins s σ H xs us Q I r h
  obtain ⟨d, kvs, rfl, hd, hap, q⟩ := h
  cases r with
  | cons r rr =>
    cases rr
    cases r
    obtain ⟨z, hdS, ys, kt, dd⟩ := dt_of I.hok hd
    have hl : ys.length = kvs.length := (Paired.length kt).symm
    have hkeys : ys.map (fun x => (tupleKind (mixKind X.prog X.w)).hash x.1) = kvs.map fun p => (tupleKind (mixKind X.prog X.w)).hash p.1 := by
      have go : ∀ {l : List (List Key × V)} {m : List (List Key × Addr × Value)}, KT H l m → m.map (fun x => (tupleKind (mixKind X.prog X.w)).hash x.1) = l.map fun p => (tupleKind (mixKind X.prog X.w)).hash p.1 := by
        intro l m t
        induction t with
        | nil => rfl
        | @cons p x ps xs hq t ih =>
          rw [List.map_cons, List.map_cons, ih, hq.1]
      exact go kt
    have hmem : ∀ x ∈ ys, H x.2.1 = some (.tup (x.1.map kV)) := by
      have go : ∀ {l : List (List Key × V)} {m : List (List Key × Addr × Value)}, KT H l m → ∀ x ∈ m, H x.2.1 = some (.tup (x.1.map kV)) := by
        intro l m t
        induction t with
        | nil => intro x hx; exact nomatch hx
        | @cons p x ps xs hq t ih =>
          intro y hy
          rcases List.mem_cons.mp hy with rfl | hy
          · rw [← hq.1]
            exact hq.2.1
          · exact ih y hy
      exact go kt
    have hty : ∀ x ∈ ys, s.TypeIs (.ref x.2.1) "tuple" := fun x hx => by
      obtain ⟨_, its, _, ob, e, c, _⟩ := I.hok _ _ (hmem x hx)
      exact ⟨ob, e, c⟩
    have hst : ∀ x ∈ ys, (tupleKind (mixKind X.prog X.w)).is (s.heap.push { cls := .type "dict", data := .dict #[] }) x.1 x.2.1 := fun x hx => by
      refine key_of (P := X.prog) (w := X.w) (H := H) (I.hok.kept fun b u e => Heap.get?_push_of_some _ e) (hmem x hx)
    refine call_dict_ofH (knd := tupleKind (mixKind X.prog X.w)) (show X.A.in1.in1.units < cLine from by show X.A.units + 1 + 1 < cLine; omega) hdS dd (by omega) hty (by rw [hkeys]; exact hap) hst fun h' hd' hs' => ?_
    have np : H s.heap.objs.size = none := I.hok.fresh (Nat.le_refl _)
    have new : ObjOk X.prog X.w (upd H s.heap.objs.size (.dT kvs)) h' s.heap.objs.size (.dT kvs) := by
      obtain ⟨o, es, ep, h1, h2, h3, h4, _, h6⟩ := hd'
      exact ⟨z, beq_eq_false_iff_ne.mpr (Ne.symm (Nat.ne_of_lt I.big)), ys, KT.keeps kt (fun b l e => sm_upd np _ _ e), o, es, ep, h1, h2, h3, h4, h6⟩
    refine ⟨.ref s.heap.objs.size, _, I.laid (a := s.heap.objs.size) (o := .dT kvs) (t' := s.toks) (fun b u e => ?_) (Nat.le_refl _) new, rfl, q _ np⟩
    exact (hs'.2 b (Nat.ne_of_lt (Heap.lt_size e))).trans (Heap.get?_push_of_some _ e)
/-- d == e of two dicts of one row of tuples for keys, their values numbers -/
theorem op_eqT {X : Cx} (hu : X.A.units + 8 < cLine) : OpR X (compareOp .Eq) (fun x y H Q => ∃ (a b : Addr) (ks : List (List Key)) (ns ms : List Int), x = .ref a ∧ y = .ref b ∧ ns.length = ks.length ∧ ms.length = ks.length ∧
    H a = some (.dT (ks.zip (ns.map V.int))) ∧ H b = some (.dT (ks.zip (ms.map V.int))) ∧ Q (.bl (decide (ns = ms))) H) := by
  intro pins s σ H x y v u Q I rx ry h
  obtain ⟨a, b, ks, ns, ms, rfl, rfl, l1, l2, ha, hb, q⟩ := h
  cases rx
  cases ry
  obtain ⟨z1, s1, xa, ka, da⟩ := dt_of I.hok ha
  obtain ⟨z2, s2, xb, kb, db⟩ := dt_of I.hok hb
  have keys : ∀ {l : List (List Key × V)} {m : List (List Key × Addr × Value)}, KT H l m → m.map (·.1) = l.map (·.1) := by
    intro l m t
    induction t with
    | nil => rfl
    | @cons p x ps xs hq t ih => rw [List.map_cons, List.map_cons, ih, hq.1]
  have vals : ∀ {l : List (List Key × V)} {m : List (List Key × Addr × Value)}, KT H l m → Vals (l.map (·.2)) (m.map fun x => x.2.2) := by
    intro l m t
    induction t with
    | nil => exact .nil
    | @cons p x ps xs hq t ih => exact .cons hq.2.2 ih
  have e1 : (ks.zip (ns.map V.int)).map (·.1) = ks := List.map_fst_zip (by rw [List.length_map]; omega)
  have e2 : (ks.zip (ms.map V.int)).map (·.1) = ks := List.map_fst_zip (by rw [List.length_map]; omega)
  have f1 : (ks.zip (ns.map V.int)).map (·.2) = ns.map V.int := List.map_snd_zip (by rw [List.length_map]; omega)
  have f2 : (ks.zip (ms.map V.int)).map (·.2) = ms.map V.int := List.map_snd_zip (by rw [List.length_map]; omega)
  refine eq_dictsH (knd := tupleKind (mixKind X.prog X.w)) (show X.A.in1.units < cLine from by show X.A.units + 1 < cLine; omega) (by omega) s1 s2 da db (by rw [keys ka, keys kb, e1, e2]) (Vals.ints (f1 ▸ vals ka)) (Vals.ints (f2 ▸ vals kb)) ?_
  exact ⟨.bl _, H, I, rfl, q⟩
end Hp5

set_option maxHeartbeats 4000000
/-! sets of numbers: set(list), len, == -/
namespace Hp5
open PySem PySem.Spec PyProof.Rows L2
theorem entry_set_eq : entryFor table "set.__eq__" = some Builtin.«frozenset.__eq__» :=
  entryFor_alias (id' := "frozenset.__eq__") (by kernel_rfl) rfl (by decide +kernel) (by kernel_rfl)
theorem sub_set_froz : isSubtype (.type "set") (.type "frozenset") = pure false := by rw [isSubtype_type]; kernel_rfl
section
variable {prog : Program} {w : World} {A : Around} {E : Value → Shared → Prop} {s : Shared}
theorem quiet_int {x : Value} {Q : Bool → Shared → Prop} (hx : ∀ a, x ≠ .ref a) (h : Q true s) : wpAny (model prog w) A (Builtin.Frozenset.quietEq x) Q E s := by
  unfold Builtin.Frozenset.quietEq
  cases x with
  | ref a => exact absurd rfl (hx a)
  | _ => exact wpAny_pure h
theorem int_noref {k : Int} {x : Value} (h : (intKind prog w).is k x = true) : ∀ a, x ≠ .ref a := by
  rintro a rfl
  have this : Value.isInt k (.ref a) = true := h
  obtain ⟨t, e⟩ := Value.isInt_shape this
  cases e
/-- one set in another: what True tells -/
theorem subset_ints {nm : String} {a b : Addr} {S T : Int → Bool} {n m : Nat} {Q : Bool → Shared → Prop} (ha : s.heap.SetOf (intKind prog w) a S n) (hb : s.heap.SetOf (intKind prog w) b T m)
    (h : ∀ r, (r = true → ∀ k, S k = true → T k = true) → Q r s) : wpAny (model prog w) A (Builtin.Frozenset.subsetOf nm a b) Q E s := by
  obtain ⟨oa, es, ep, ta, hoa, hxa, hda, hea, hma, hba, hfa, hna⟩ := ha
  obtain ⟨ob, et, eq, tb, hob, hxb, hdb, heb, hmb, hbb, hfb, hnb⟩ := show ∃ o es ep t, s.heap.get? b = some o ∧ o.ExactSet ∧ o.data = .set es ep t ∧ ElemsOf (intKind prog w) es.toList ∧ (∀ k, T k = true ↔ ∃ e ∈ es.toList, (intKind prog w).is k e.2 = true) ∧ es.size < scanBound ∧ t.fits es.size = true ∧ es.size = m from hb
  unfold Builtin.Frozenset.subsetOf Builtin.Frozenset.sizeOf
  refine wpAny_bind (wpAny_bind (wpAny_setEntries_of hoa hda hfa (wpAny_pure ?_)))
  refine wpAny_bind (wpAny_bind (wpAny_setEntries_of hob hdb hfb (wpAny_pure ?_)))
  by_cases hgt : es.size > et.size
  · rw [if_pos hgt]
    exact wpAny_pure (h false fun z => Bool.noConfusion z)
  rw [if_neg hgt]
  refine wpAny_bind (wpAny_setEpoch_of hoa hda hfa ?_)
  refine wpAny_bind ?_
  unfold Builtin.Frozenset.walkUnseen
  refine wpAny_bind (wpAny_setEntries_of hoa hda hfa ?_)
  dsimp only
  refine wpAny_bind (wpAny_setEntries_of hob hdb hfb ?_)
  have allk : ∀ x ∈ es.toList ++ et.toList, ∀ p, x.2 ≠ .ref p := fun x hx => by
    rcases List.mem_append.mp hx with hx | hx
    · obtain ⟨⟨k, hk, _⟩, _⟩ := hea x hx
      exact int_noref hk
    · obtain ⟨⟨k, hk, _⟩, _⟩ := heb x hx
      exact int_noref hk
  refine wpAny_bind ?_
  refine wpAny_forIn_list _ (fun left q s' => s' = s ∧ q = (none, ()) ∧ ∀ x ∈ left, x ∈ es.toList ++ et.toList) _ ?_ ?_ _ _ ⟨rfl, rfl, fun x hx => hx⟩
  · rintro x left q s' ⟨rfl, rfl, hsub⟩
    refine wpAny_bind (quiet_int (allk x (hsub x List.mem_cons_self)) ?_)
    exact wpAny_pure ⟨rfl, rfl, fun y hy => hsub y (List.mem_cons_of_mem _ hy)⟩
  · rintro q s' ⟨rfl, rfl, _⟩
    refine wpAny_pure ?_
    refine wpAny_bind ?_
    refine wpAny_forIn_list _ (fun left q s'' => s'' = s' ∧ q = (none, ()) ∧ (∀ x ∈ left, x ∈ es.toList) ∧ ∀ x ∈ es.toList, x ∈ left ∨ ∀ k, (intKind prog w).is k x.2 = true → T k = true) _ ?_ ?_ _ _ ⟨rfl, rfl, fun x hx => hx, fun x hx => .inl hx⟩
    · rintro x left q s'' ⟨rfl, rfl, hsub, hdone⟩
      obtain ⟨⟨k, hk, hh⟩, hsc⟩ := hea x (hsub x List.mem_cons_self)
      rw [hh]
      refine wpAny_bind (wpAny_holding (wpAny_setFind_of hk hsc hb fun r hr => ?_))
      cases r with
      | none => exact wpAny_pure (wpAny_pure (h false fun z => Bool.noConfusion z))
      | some j =>
        have hT : T k = true := hr.symm
        unfold Builtin.Frozenset.unchanged
        refine wpAny_bind (wpAny_bind (wpAny_setEpoch_of hoa hda hfa ?_))
        rw [if_neg (by simp)]
        refine wpAny_pure (wpAny_pure ⟨rfl, rfl, fun y hy => hsub y (List.mem_cons_of_mem _ hy), fun y hy => ?_⟩)
        rcases hdone y hy with hy2 | hy2
        · rcases List.mem_cons.mp hy2 with rfl | hy3
          · refine .inr fun k2 hk2 => ?_
            rw [(intKind prog w).inj _ _ _ hk2 hk]
            exact hT
          · exact .inl hy3
        · exact .inr hy2
    · rintro q s'' ⟨rfl, rfl, _, hdone⟩
      refine wpAny_pure (h true fun _ k hk => ?_)
      obtain ⟨e, he, hek⟩ := (hma k).mp hk
      rcases hdone e he with hx | hx
      · exact absurd hx List.not_mem_nil
      · exact hx k hek
theorem eq_sets {a b : Addr} {S T : Int → Bool} {n m : Nat} {Q : Value → Shared → Prop} (hu : A.units < cLine) (ha : s.heap.SetOf (intKind prog w) a S n) (hb : s.heap.SetOf (intKind prog w) b T m)
    (h : ∀ r, (r = true → ∀ k, S k = true → T k = true) → Q (.bool r) s) : wpAny (model prog w) A (compareOp .Eq (.ref a) (.ref b)) Q E s := by
  obtain ⟨oa, es, ep, ta, hoa, hxa, hda, hea, hma, hba, hfa, hna⟩ := ha
  obtain ⟨ob, et, eq, tb, hob, hxb, hdb, heb, hmb, hbb, hfb, hnb⟩ := hb
  have tya : s.TypeIs (.ref a) "set" := ⟨oa, hoa, hxa.1⟩
  have tyb : s.TypeIs (.ref b) "set" := ⟨ob, hob, hxb.1⟩
  refine wpAny_richCompare_same_room (op := .Eq) tya tyb PySem.F.slot_set_eq (wpAny_call_entry PySem.F.slot_set_eq tya entry_set_eq ?_ (PySem.F.args_set_eq_2 _ _)) hu
  show wpAny _ _ (Builtin.Frozenset.slot1 "__eq__" ⟨[.ref a, .ref b], []⟩ >>= _) _ _ s
  unfold Builtin.Frozenset.slot1 slotArgs
  simp only [List.isEmpty_nil, Bool.not_true, Bool.false_eq_true, ↓reduceIte, bind_assoc, List.length_cons, List.length_nil, bne_self_eq_false]
  refine wpAny_bind (wpAny_pure ?_)
  refine wpAny_bind (wpAny_pure ?_)
  dsimp only
  unfold Builtin.Frozenset.isAnySet
  refine wpAny_bind (wpAny_bind (wpAny_isInstance (T := "set") tyb PySem.F.sub_set_set ?_))
  refine wpAny_pure ?_
  rw [if_neg (by decide)]
  show wpAny _ _ (pure a >>= _) _ _ _
  refine wpAny_bind (wpAny_pure ?_)
  show wpAny _ _ (pure b >>= _) _ _ _
  refine wpAny_bind (wpAny_pure ?_)
  unfold Builtin.Frozenset.sizeOf
  refine wpAny_bind (wpAny_bind (wpAny_setEntries_of hoa hda hfa (wpAny_pure ?_)))
  refine wpAny_bind (wpAny_bind (wpAny_setEntries_of hob hdb hfb (wpAny_pure ?_)))
  refine wpAny_bind ?_
  have fin : ∀ r, (r = true → ∀ k, S k = true → T k = true) → wpAny (model prog w) A.in1 (ret (Value.bool r)) (fun fin s' => ∃ v, fin = .done (.ret v) ∧ v ≠ .notImplemented ∧ Q v s') E s := fun r hr =>
    wpAny_pure ⟨_, rfl, (fun z => nomatch z), h r hr⟩
  by_cases hsz : es.size = et.size
  · rw [if_neg (by rw [hsz]; simp)]
    refine wpAny_bind ?_
    refine wpAny_bind (wpAny_isInstance (T := "set") tya sub_set_froz ?_)
    refine wpAny_pure ?_
    rw [if_neg (by decide)]
    exact subset_ints ⟨oa, es, ep, ta, hoa, hxa, hda, hea, hma, hba, hfa, hna⟩ ⟨ob, et, eq, tb, hob, hxb, hdb, heb, hmb, hbb, hfb, hnb⟩ fun r hr => fin r hr
  · rw [if_pos (by simpa using hsz)]
    exact wpAny_pure (fin false fun z => Bool.noConfusion z)
end
section
variable {X : Cx}
def fm (ns : List Int) : List Int := firstMet (fun i => ns.getD i 0) ns.length
theorem fm_same {ns : List Int} {c : Int} (h : ∀ n ∈ ns, n = c) (h0 : ns ≠ []) : fm ns = [c] := by
  have val : ∀ i, i < ns.length → ns.getD i 0 = c := fun i hi => by
    rw [List.getD_eq_getElem?_getD, List.getElem?_eq_getElem hi]
    exact h _ (List.getElem_mem hi)
  have go : ∀ i, i + 1 ≤ ns.length → firstMet (fun i => ns.getD i 0) (i + 1) = [c] := by
    intro i
    induction i with
    | zero =>
      intro hi
      rw [firstMet_succ, firstMet_zero]
      show (if ([] : List Int).any (· == ns.getD 0 0) then [] else [] ++ [ns.getD 0 0]) = [c]
      rw [val 0 hi] <;> rfl
    | succ i ih =>
      intro hi
      rw [firstMet_succ, ih (by omega)]
      show (if [c].any (· == ns.getD (i + 1) 0) then [c] else [c] ++ [ns.getD (i + 1) 0]) = [c]
      rw [val (i + 1) hi]
      simp
  unfold fm
  have hl : 0 < ns.length := List.length_pos_iff.mpr h0
  have e := go (ns.length - 1) (by omega)
  rw [show ns.length - 1 + 1 = ns.length by omega] at e
  exact e
theorem fm_mem {ns : List Int} {k : Int} : (fm ns).any (· == k) = true ↔ k ∈ ns := by
  unfold fm
  rw [firstMet_any]
  have e : (List.range ns.length).map (fun i => ns.getD i 0) = ns := by
    apply List.ext_getElem
    · simp
    · intro i h1 h2
      rw [List.getElem_map, List.getElem_range, List.getD_eq_getElem?_getD, List.getElem?_eq_getElem h2] <;> rfl
  rw [e, List.any_eq_true]
  constructor
  · rintro ⟨x, hx, e⟩
    exact eq_of_beq e ▸ hx
  · intro h
    exact ⟨k, h, beq_self_eq_true k⟩
/-- set(xs), a list of numbers -/
def rSetI (K : PySem.W.Frag) : List V → Hp → VK → Prop := fun xs H Q => ∃ (l : Addr) (ns : List Int), xs = [.ref l] ∧ SqL K H l (ns.map V.int) ∧ ns.length ≤ 4000 ∧
  ∀ p, H p = none → Q (.ref p) (upd H p (.set (fun k => (fm ns).any (· == k)) (fm ns).length))
theorem cr_setI (hc : X.calm = true) : CallR X (.type "set") (rSetI X.K) := by
  intro pins s σ H xs us Q I r h
  obtain ⟨l, ns, rfl, hq, hl, q⟩ := h
  have eu := Vals.ref1 r
  subst eu
  obtain ⟨its, rv, pl, hz⟩ := I.list hq
  have hlen : its.toArray.size = ns.length := by rw [List.size_toArray, ← rv.length, List.length_map]
  refine call_set_list (I.ok.hd hc) pl.isList (by simpa using Vals.ints rv) (by rw [hlen]; unfold scanBound; omega) fun h' tk hS hk => ?_
  rw [hlen] at hS
  have np : H s.heap.objs.size = none := I.hok.fresh (Nat.le_refl _)
  have kept : ∀ b o, s.heap.get? b = some o → h'.get? b = some o := fun b o e => hk b o (Heap.lt_size e) e
  refine ⟨.ref s.heap.objs.size, _, I.laid (a := s.heap.objs.size) (o := .set (fun k => (fm ns).any (· == k)) (fm ns).length) (t' := tk) kept (Nat.le_refl _) hS, rfl, q _ np⟩
/-- len of such a set -/
theorem cr_lenSet : CallR X (.builtin "len") (fun xs H Q => ∃ (a : Addr) (S : Int → Bool) (n : Nat), xs = [.ref a] ∧ H a = some (.set S n) ∧ Q (.int (n : Nat)) H) := by
  intro pins s σ H xs us Q I r h
  obtain ⟨a, S, n, rfl, ha, q⟩ := h
  have eu := Vals.ref1 r
  subst eu
  obtain ⟨o, es, ep, t, ho, hex, hd, _, _, hb, hf, hn⟩ := I.hok _ _ ha
  refine call_len_set ho hex hd hf (by unfold scanBound at hb; omega) ⟨.int (es.size : Nat), H, I.tok _, ⟨_, rfl⟩, ?_⟩
  rw [hn]
  exact q
/-- == of two such sets: what True tells -/
theorem op_eqSet (hu : X.A.units < cLine) : OpR X (compareOp .Eq) (fun x y H Q => ∃ (a b : Addr) (S T : Int → Bool) (n m : Nat), x = .ref a ∧ y = .ref b ∧ H a = some (.set S n) ∧ H b = some (.set T m) ∧
    ∀ r, (r = true → ∀ k, S k = true → T k = true) → Q (.bl r) H) := by
  intro pins s σ H x y v u Q I rx ry h
  obtain ⟨a, b, S, T, n, m, rfl, rfl, ha, hb, q⟩ := h
  cases rx
  cases ry
  exact eq_sets (prog := X.prog) (w := X.w) hu (I.hok _ _ ha) (I.hok _ _ hb) fun r hr => ⟨.bl r, H, I, rfl, q r hr⟩
end
end Hp5

set_option maxHeartbeats 4000000
/-! the mathematics: skins, rounds, corners; no program in sight -/
namespace Hp5
abbrev Skin := List (List Pr)
def cr (S : Skin) (f a : Nat) : Pr := (S.getD f []).getD a (0, 0)
def InR (n : Nat) (p : Pr) : Prop := p.1 < n ∧ p.2 < 4
structure Shaped (S : Skin) : Prop where
  pos : 0 < S.length
  few : S.length ≤ 12
  row : ∀ r ∈ S, r.length = 4 ∧ ∀ p ∈ r, InR S.length p
def Sewn (S : Skin) : Prop := ∀ f a, f < S.length → a < 4 → cr S f a ≠ (f, a) ∧ cr S (cr S f a).1 (cr S f a).2 = (f, a)
def Conn (S : Skin) : Prop := ∀ X : Nat → Prop, X 0 → (∀ f a, f < S.length → a < 4 → X f → X (cr S f a).1) → ∀ f, f < S.length → X f
structure Valid (S : Skin) : Prop where
  sh : Shaped S
  sewn : Sewn S
  conn : Conn S
theorem cr_get {S : Skin} {f a : Nat} {r : List Pr} {p : Pr} (h : S[f]? = some r) (q : r[a]? = some p) : cr S f a = p := by
  unfold cr
  have e1 : S.getD f [] = r := by rw [List.getD_eq_getElem?_getD, h] <;> rfl
  rw [e1]
  rw [List.getD_eq_getElem?_getD, q] <;> rfl
theorem Shaped.at {S : Skin} (h : Shaped S) {f a : Nat} (hf : f < S.length) (ha : a < 4) : ∃ r, S[f]? = some r ∧ r[a]? = some (cr S f a) := by
  have e := List.getElem?_eq_getElem hf
  have hr := h.row _ (List.getElem_mem hf)
  have e2 := List.getElem?_eq_getElem (show a < S[f].length by omega)
  exact ⟨_, e, by rw [cr_get e e2]; exact e2⟩
theorem Shaped.inR {S : Skin} (h : Shaped S) {f a : Nat} (hf : f < S.length) (ha : a < 4) : InR S.length (cr S f a) := by
  obtain ⟨r, e1, e2⟩ := h.at hf ha
  exact (h.row r (List.mem_of_getElem? e1)).2 _ (List.mem_of_getElem? e2)
/-! ### lists without repetition -/
theorem nd_sub {α : Type} [DecidableEq α] : ∀ {l m : List α}, l.Nodup → (∀ x ∈ l, x ∈ m) → l.length ≤ m.length
  | [], m, _, _ => Nat.zero_le _
  | x :: r, m, h, s => by
    have hx : x ∈ m := s x List.mem_cons_self
    have hn := List.nodup_cons.mp h
    have ih := nd_sub (l := r) (m := m.erase x) hn.2 fun y hy => (List.mem_erase_of_ne (fun (e : y = x) => hn.1 (by rw [← e]; exact hy))).mpr (s y (List.mem_cons_of_mem _ hy))
    have e := List.length_erase_of_mem hx
    have hp := List.length_pos_of_mem hx
    rw [List.length_cons]
    omega
theorem nd_same {α : Type} [DecidableEq α] {l m : List α} (hl : l.Nodup) (hm : m.Nodup) (h : ∀ x, x ∈ l ↔ x ∈ m) : l.length = m.length :=
  Nat.le_antisymm (nd_sub hl fun x hx => (h x).mp hx) (nd_sub hm fun x hx => (h x).mpr hx)
/-- all pairs of so many FIELDS, ascending -/
def prAt (k : Nat) : Pr := (k / 4, k % 4)
def allP (n : Nat) : List Pr := (List.range (4 * n)).map prAt
def ix (p : Pr) : Nat := 4 * p.1 + p.2
theorem prAt_ix {n : Nat} {p : Pr} (h : InR n p) : prAt (ix p) = p := by
  obtain ⟨f, a⟩ := p
  have h2 : a < 4 := h.2
  show ((4 * f + a) / 4, (4 * f + a) % 4) = (f, a)
  have e1 : (4 * f + a) / 4 = f := by omega
  have e2 : (4 * f + a) % 4 = a := by omega
  rw [e1, e2]
theorem ix_prAt (k : Nat) : ix (prAt k) = k := by
  show 4 * (k / 4) + k % 4 = k
  omega
theorem ix_lt {n : Nat} {p : Pr} (h : InR n p) : ix p < 4 * n := by
  obtain ⟨h1, h2⟩ := h
  unfold ix
  omega
theorem prAt_in {n k : Nat} (h : k < 4 * n) : InR n (prAt k) := by
  refine ⟨?_, ?_⟩
  · show k / 4 < n
    omega
  · show k % 4 < 4
    omega
theorem ix_inj {n : Nat} {p q : Pr} (hp : InR n p) (hq : InR n q) (h : ix p = ix q) : p = q := by
  rw [← prAt_ix hp, ← prAt_ix hq, h]
theorem allP_len (n : Nat) : (allP n).length = 4 * n := by unfold allP; rw [List.length_map, List.length_range]
theorem allP_get {n k : Nat} (h : k < 4 * n) : (allP n)[k]? = some (prAt k) := by
  unfold allP
  rw [List.getElem?_map, List.getElem?_range h] <;> rfl
theorem mem_allP {n : Nat} {p : Pr} : p ∈ allP n ↔ InR n p := by
  unfold allP
  constructor
  · intro h
    obtain ⟨k, hk, rfl⟩ := List.mem_map.mp h
    exact prAt_in (List.mem_range.mp hk)
  · intro h
    exact List.mem_map.mpr ⟨ix p, List.mem_range.mpr (ix_lt h), prAt_ix h⟩
theorem allP_nd (n : Nat) : (allP n).Nodup := by
  unfold allP
  rw [List.nodup_iff_pairwise_ne]
  rw [List.pairwise_map]
  refine List.Pairwise.imp_of_mem (fun {a b} ha hb hab e => hab ?_) (List.nodup_iff_pairwise_ne.mp List.nodup_range)
  have := congrArg ix e
  rwa [ix_prAt, ix_prAt] at this
theorem few_pairs {n : Nat} {l : List Pr} (hl : l.Nodup) (h : ∀ p ∈ l, InR n p) : l.length ≤ 4 * n := by
  have := nd_sub hl (m := allP n) fun p hp => mem_allP.mpr (h p hp)
  rwa [allP_len] at this
/-! ### rounds -/
def nx (S : Skin) (p : Pr) : Pr := cr S p.1 ((p.2 + 3) % 4)
def bk (S : Skin) (p : Pr) : Pr := ((cr S p.1 p.2).1, ((cr S p.1 p.2).2 + 1) % 4)
section
variable {S : Skin}
theorem nx_in (h : Shaped S) {p : Pr} (hp : InR S.length p) : InR S.length (nx S p) := h.inR hp.1 (by omega)
theorem bk_in (h : Shaped S) {p : Pr} (hp : InR S.length p) : InR S.length (bk S p) := ⟨(h.inR hp.1 hp.2).1, Nat.mod_lt _ (by decide)⟩
theorem nx_bk (v : Valid S) {p : Pr} (hp : InR S.length p) : nx S (bk S p) = p := by
  have hq := v.sh.inR hp.1 hp.2
  have e := (v.sewn p.1 p.2 hp.1 hp.2).2
  show cr S (cr S p.1 p.2).1 ((((cr S p.1 p.2).2 + 1) % 4 + 3) % 4) = p
  have e2 : (((cr S p.1 p.2).2 + 1) % 4 + 3) % 4 = (cr S p.1 p.2).2 := by
    have := hq.2
    omega
  rw [e2, e]
theorem bk_nx (v : Valid S) {p : Pr} (hp : InR S.length p) : bk S (nx S p) = p := by
  have e := (v.sewn p.1 ((p.2 + 3) % 4) hp.1 (by omega)).2
  show ((cr S (nx S p).1 (nx S p).2).1, ((cr S (nx S p).1 (nx S p).2).2 + 1) % 4) = p
  rw [show cr S (nx S p).1 (nx S p).2 = (p.1, (p.2 + 3) % 4) from e]
  have := hp.2
  have e2 : ((p.2 + 3) % 4 + 1) % 4 = p.2 := by omega
  show (p.1, ((p.2 + 3) % 4 + 1) % 4) = p
  rw [e2]
theorem nx_inj (v : Valid S) {p q : Pr} (hp : InR S.length p) (hq : InR S.length q) (h : nx S p = nx S q) : p = q := by
  rw [← bk_nx v hp, ← bk_nx v hq, h]
def it (S : Skin) : Nat → Pr → Pr
  | 0, p => p
  | j + 1, p => nx S (it S j p)
theorem it_in (h : Shaped S) {p : Pr} (hp : InR S.length p) : ∀ j, InR S.length (it S j p)
  | 0 => hp
  | j + 1 => nx_in h (it_in h hp j)
theorem it_cancel (v : Valid S) {p : Pr} (hp : InR S.length p) : ∀ (i j : Nat), it S i p = it S (i + j) p → it S j p = p
  | 0, j, h => by rw [Nat.zero_add] at h; exact h.symm
  | i + 1, j, h => by
    have e : i + 1 + j = (i + j) + 1 := by omega
    rw [e] at h
    exact it_cancel v hp i j (nx_inj v (it_in v.sh hp _) (it_in v.sh hp _) h)
theorem it_comm : ∀ (j : Nat) (p : Pr), it S j (nx S p) = nx S (it S j p)
  | 0, _ => rfl
  | j + 1, p => by
    show nx S (it S j (nx S p)) = nx S (nx S (it S j p))
    rw [it_comm j p]
theorem it_add : ∀ (i j : Nat) (p : Pr), it S (i + j) p = it S i (it S j p)
  | 0, j, p => by rw [Nat.zero_add] <;> rfl
  | i + 1, j, p => by
    rw [show i + 1 + j = (i + j) + 1 by omega]
    show nx S (it S (i + j) p) = nx S (it S i (it S j p))
    rw [it_add i j p]
def ts (S : Skin) (p : Pr) (j : Nat) : List Pr := (List.range j).map fun i => it S i p
theorem ts_len (p : Pr) (j : Nat) : (ts S p j).length = j := by unfold ts; rw [List.length_map, List.length_range]
theorem ts_succ (p : Pr) (j : Nat) : ts S p (j + 1) = ts S p j ++ [it S j p] := by
  unfold ts
  rw [List.range_succ, List.map_append] <;> rfl
theorem mem_ts {p q : Pr} {j : Nat} : q ∈ ts S p j ↔ ∃ i, i < j ∧ it S i p = q := by
  unfold ts
  rw [List.mem_map]
  exact ⟨fun ⟨i, h1, h2⟩ => ⟨i, List.mem_range.mp h1, h2⟩, fun ⟨i, h1, h2⟩ => ⟨i, List.mem_range.mpr h1, h2⟩⟩
theorem ts_nd {p : Pr} {j : Nat} (h : ∀ i k, i < k → k < j → it S i p ≠ it S k p) : (ts S p j).Nodup := by
  unfold ts
  rw [List.nodup_iff_pairwise_ne, List.pairwise_map]
  refine List.pairwise_iff_getElem.mpr fun a b ha hb hab => ?_
  rw [List.getElem_range, List.getElem_range]
  rw [List.length_range] at hb
  exact h a b hab hb
/-- the length of a round -/
structure Per (S : Skin) (p : Pr) (L : Nat) : Prop where
  pos : 1 ≤ L
  few : L ≤ 4 * S.length
  home : it S L p = p
  least : ∀ i, 0 < i → i < L → it S i p ≠ p
theorem per_ex (v : Valid S) {p : Pr} (hp : InR S.length p) : ∃ L, Per S p L := by
  have some_home : ∃ L, 1 ≤ L ∧ L ≤ 4 * S.length ∧ it S L p = p := by
    by_cases hn : ∀ i k, i < k → k < 4 * S.length + 1 → it S i p ≠ it S k p
    · have h1 := ts_nd hn
      have h2 := few_pairs h1 fun q hq => by
        obtain ⟨i, _, rfl⟩ := mem_ts.mp hq
        exact it_in v.sh hp i
      rw [ts_len] at h2
      omega
    · obtain ⟨i, hn⟩ := Classical.not_forall.mp hn
      obtain ⟨k, hn⟩ := Classical.not_forall.mp hn
      obtain ⟨h1, hn⟩ := Classical.not_imp.mp hn
      obtain ⟨h2, hn⟩ := Classical.not_imp.mp hn
      have e := Classical.not_not.mp hn
      rw [show k = i + (k - i) by omega] at e
      exact ⟨k - i, by omega, by omega, it_cancel v hp i (k - i) e⟩
  obtain ⟨L0, h1, h2, h3⟩ := some_home
  have least : ∀ n, (∃ L, 1 ≤ L ∧ L ≤ n ∧ it S L p = p) → ∃ L, 1 ≤ L ∧ L ≤ n ∧ it S L p = p ∧ ∀ i, 0 < i → i < L → it S i p ≠ p := by
    intro n
    induction n with
    | zero => rintro ⟨L, a, b, _⟩; omega
    | succ n ih =>
      rintro ⟨L, a, b, c⟩
      by_cases hex : ∃ L, 1 ≤ L ∧ L ≤ n ∧ it S L p = p
      · obtain ⟨L, a, b, c, d⟩ := ih hex
        exact ⟨L, a, by omega, c, d⟩
      · refine ⟨L, a, b, c, fun i hi hil e => hex ⟨i, hi, by omega, e⟩⟩
  obtain ⟨L, a, b, c, d⟩ := least L0 ⟨L0, h1, Nat.le_refl _, h3⟩
  exact ⟨L, a, by omega, c, d⟩
theorem Per.nd {p : Pr} {L : Nat} (v : Valid S) (hp : InR S.length p) (h : Per S p L) : (ts S p L).Nodup := ts_nd fun i k hik hk e => by
  rw [show k = i + (k - i) by omega] at e
  exact h.least (k - i) (by omega) (by omega) (it_cancel v hp i (k - i) e)
theorem Per.self {p : Pr} {L : Nat} (h : Per S p L) : p ∈ ts S p L := mem_ts.mpr ⟨0, h.pos, rfl⟩
/-- rounds are closed, forth and back -/
theorem Per.closed {p q : Pr} {L : Nat} (v : Valid S) (hp : InR S.length p) (h : Per S p L) (hq : InR S.length q) : q ∈ ts S p L ↔ nx S q ∈ ts S p L := by
  constructor
  · intro hm
    obtain ⟨i, hi, rfl⟩ := mem_ts.mp hm
    by_cases hl : i + 1 < L
    · exact mem_ts.mpr ⟨i + 1, hl, rfl⟩
    · refine mem_ts.mpr ⟨0, h.pos, ?_⟩
      have e : i + 1 = L := by omega
      have hh := h.home
      rw [← e] at hh
      exact hh.symm
  · intro hm
    obtain ⟨i, hi, e⟩ := mem_ts.mp hm
    cases i with
    | zero =>
      refine mem_ts.mpr ⟨L - 1, by have := h.pos; omega, ?_⟩
      refine nx_inj v (it_in v.sh hp _) hq ?_
      have hh := h.home
      rw [show L = (L - 1) + 1 by have := h.pos; omega] at hh
      exact hh.trans e
    | succ i => exact mem_ts.mpr ⟨i, by omega, nx_inj v (it_in v.sh hp _) hq e⟩
theorem Per.inR {p q : Pr} {L : Nat} (v : Valid S) (hp : InR S.length p) (hq : q ∈ ts S p L) : InR S.length q := by
  obtain ⟨i, _, rfl⟩ := mem_ts.mp hq
  exact it_in v.sh hp i
/-! ### a round, as the law walks it -/
def lw (S : Skin) : Nat → List Pr → List Pr
  | 0, row => row
  | m + 1, row => if nx S (row.getLastD (0, 0)) = row.headD (0, 0) then row else lw S m (row ++ [nx S (row.getLastD (0, 0))])
def orb (S : Skin) (p : Pr) : List Pr := lw S (4 * S.length) [p]
theorem ts_last (p : Pr) (j : Nat) : (ts S p (j + 1)).getLastD (0, 0) = it S j p := by
  rw [ts_succ, List.getLastD_concat]
theorem ts_head (p : Pr) (j : Nat) : (ts S p (j + 1)).headD (0, 0) = p := by
  unfold ts
  rw [List.range_succ_eq_map] <;> rfl
theorem lw_ts {p : Pr} {L : Nat} (h : Per S p L) : ∀ (m j : Nat), j + 1 ≤ L → L ≤ j + 1 + m → lw S m (ts S p (j + 1)) = ts S p L
  | 0, j, h1, h2 => by
    rw [show L = j + 1 by omega] <;> rfl
  | m + 1, j, h1, h2 => by
    unfold lw
    rw [ts_last, ts_head]
    by_cases e : nx S (it S j p) = p
    · rw [if_pos e]
      have : ¬ j + 1 < L := fun hl => h.least (j + 1) (by omega) hl e
      rw [show L = j + 1 by omega]
    · rw [if_neg e]
      have hne : j + 1 ≠ L := fun hl => e (by rw [← hl] at h; exact h.home)
      have := lw_ts h m (j + 1) (by omega) (by omega)
      rw [ts_succ p (j + 1)] at this
      exact this
theorem orb_ts {p : Pr} {L : Nat} (h : Per S p L) : orb S p = ts S p L := lw_ts h _ 0 h.pos (by have := h.few; omega)
theorem orb_per (v : Valid S) {p : Pr} (hp : InR S.length p) : ∃ L, Per S p L ∧ orb S p = ts S p L := by
  obtain ⟨L, h⟩ := per_ex v hp
  exact ⟨L, h, orb_ts h⟩
theorem orb_self (v : Valid S) {p : Pr} (hp : InR S.length p) : p ∈ orb S p := by
  obtain ⟨L, h, e⟩ := orb_per v hp
  rw [e]
  exact h.self
theorem orb_nd (v : Valid S) {p : Pr} (hp : InR S.length p) : (orb S p).Nodup := by
  obtain ⟨L, h, e⟩ := orb_per v hp
  rw [e]
  exact h.nd v hp
theorem orb_in (v : Valid S) {p q : Pr} (hp : InR S.length p) (hq : q ∈ orb S p) : InR S.length q := by
  obtain ⟨L, h, e⟩ := orb_per v hp
  rw [e] at hq
  exact Per.inR v hp hq
theorem orb_closed (v : Valid S) {p q : Pr} (hp : InR S.length p) (hq : InR S.length q) : q ∈ orb S p ↔ nx S q ∈ orb S p := by
  obtain ⟨L, h, e⟩ := orb_per v hp
  rw [e]
  exact h.closed v hp hq
end
end Hp5

set_option maxHeartbeats 4000000
/-! the CORNERS, as the program and as the law walks them: the same -/
namespace Hp5
section
variable {S : Skin}
/-- the program's walk: known ones, the pair, the row -/
def wk (S : Skin) : Nat → List Pr → Pr → List Pr → List Pr × List Pr
  | 0, known, _, row => (known, row)
  | m + 1, known, p, row => if p ∈ known then (known, row) else wk S m (known ++ [p]) (nx S p) (row ++ [p])
theorem wk_in (m : Nat) {known row : List Pr} {p : Pr} (h : p ∈ known) : wk S m known p row = (known, row) := by
  cases m with
  | zero => rfl
  | succ m =>
    unfold wk
    rw [if_pos h]
theorem wk_out (m : Nat) {known row : List Pr} {p : Pr} (h : p ∉ known) : wk S (m + 1) known p row = wk S m (known ++ [p]) (nx S p) (row ++ [p]) := by
  show (if p ∈ known then (known, row) else wk S m (known ++ [p]) (nx S p) (row ++ [p])) = _
  rw [if_neg h]
/-- a walk's list of known ones: no repetition, pairs of the skin -/
structure Kn (S : Skin) (known : List Pr) : Prop where
  nd : known.Nodup
  inR : ∀ p ∈ known, InR S.length p
theorem Kn.snoc {known : List Pr} (h : Kn S known) {p : Pr} (hp : InR S.length p) (hn : p ∉ known) : Kn S (known ++ [p]) := by
  refine ⟨?_, fun q hq => ?_⟩
  · rw [List.nodup_append]
    refine ⟨h.nd, List.nodup_cons.mpr ⟨List.not_mem_nil, List.nodup_nil⟩, fun a ha b hb e => ?_⟩
    rw [List.mem_singleton] at hb
    exact hn (hb ▸ e ▸ ha)
  · rcases List.mem_append.mp hq with hq | hq
    · exact h.inR q hq
    · rw [List.mem_singleton] at hq
      exact hq ▸ hp
theorem Kn.len {known : List Pr} (h : Kn S known) : known.length ≤ 4 * S.length := few_pairs h.nd h.inR
theorem wk_kn (v : Shaped S) : ∀ (m : Nat) {known row : List Pr} {p : Pr}, Kn S known → InR S.length p → Kn S (wk S m known p row).1
  | 0, _, _, _, h, _ => h
  | m + 1, known, row, p, h, hp => by
    by_cases e : p ∈ known
    · rw [wk_in _ e]
      exact h
    · rw [wk_out _ e]
      exact wk_kn v m (h.snoc hp e) (nx_in v hp)
/-- the state behind k pairs -/
def csSt (S : Skin) : Nat → List Pr × List (List Pr)
  | 0 => ([], [])
  | k + 1 => ((wk S (4 * S.length + 1) (csSt S k).1 (prAt k) []).1,
      if 0 < (wk S (4 * S.length + 1) (csSt S k).1 (prAt k) []).2.length then (csSt S k).2 ++ [(wk S (4 * S.length + 1) (csSt S k).1 (prAt k) []).2] else (csSt S k).2)
def cornersM (S : Skin) : List (List Pr) := (csSt S (4 * S.length)).2
theorem csSt_kn (v : Shaped S) : ∀ k, k ≤ 4 * S.length → Kn S (csSt S k).1
  | 0, _ => ⟨List.nodup_nil, fun _ h => absurd h List.not_mem_nil⟩
  | k + 1, h => wk_kn v _ (csSt_kn v k (by omega)) (prAt_in (by omega))
/-! ### one list for both -/
def cs (S : Skin) : List Pr → List Pr → List (List Pr)
  | [], _ => []
  | p :: ps, K => if p ∈ K then cs S ps K else orb S p :: cs S ps (K ++ orb S p)
def Closed (S : Skin) (K : List Pr) : Prop := ∀ q, InR S.length q → (q ∈ K ↔ nx S q ∈ K)
theorem Closed.app {K : List Pr} (v : Valid S) (h : Closed S K) {p : Pr} (hp : InR S.length p) : Closed S (K ++ orb S p) := fun q hq => by
  rw [List.mem_append, List.mem_append, h q hq, orb_closed v hp hq]
theorem closed_it {K : List Pr} (v : Valid S) (h : Closed S K) {p : Pr} (hp : InR S.length p) (hn : p ∉ K) : ∀ j, it S j p ∉ K
  | 0 => hn
  | j + 1 => fun hm => closed_it v h hp hn j ((h _ (it_in v.sh hp j)).mpr hm)
theorem wk_ts {K : List Pr} (v : Valid S) (hK : Closed S K) {p : Pr} (hp : InR S.length p) (hn : p ∉ K) {L : Nat} (h : Per S p L) :
    ∀ (m j : Nat), j ≤ L → L ≤ j + m → wk S m (K ++ ts S p j) (it S j p) (ts S p j) = (K ++ ts S p L, ts S p L)
  | 0, j, h1, h2 => by
    rw [show L = j by omega] <;> rfl
  | m + 1, j, h1, h2 => by
    by_cases e : j = L
    · subst e
      exact wk_in _ (List.mem_append_right _ (by rw [h.home]; exact h.self))
    · have hlt : j < L := by omega
      have hnd := h.nd v hp
      have no : it S j p ∉ K ++ ts S p j := fun hm => by
        rcases List.mem_append.mp hm with hm | hm
        · exact closed_it v hK hp hn j hm
        · obtain ⟨i, hi, ei⟩ := mem_ts.mp hm
          rw [show j = i + (j - i) by omega] at ei
          exact h.least (j - i) (by omega) (by omega) (it_cancel v hp i (j - i) ei)
      rw [wk_out _ no, List.append_assoc, ← ts_succ]
      exact wk_ts v hK hp hn h m (j + 1) (by omega) (by omega)
theorem wk_new {K : List Pr} (v : Valid S) (hK : Closed S K) {p : Pr} (hp : InR S.length p) (hn : p ∉ K) : wk S (4 * S.length + 1) K p [] = (K ++ orb S p, orb S p) := by
  obtain ⟨L, h, e⟩ := orb_per v hp
  have z := wk_ts v hK hp hn h (4 * S.length + 1) 0 (Nat.zero_le _) (by have := h.few; omega)
  rw [e]
  have e0 : K ++ ts S p 0 = K := List.append_nil K
  rw [e0] at z
  exact z
theorem drop_prAt {n k : Nat} (h : k < 4 * n) : (allP n).drop k = prAt k :: (allP n).drop (k + 1) := by
  have e := allP_get (n := n) h
  obtain ⟨h1, h2⟩ := List.getElem?_eq_some_iff.mp e
  rw [← h2]
  exact List.drop_eq_getElem_cons h1
theorem csSt_cs (v : Valid S) : ∀ k, k ≤ 4 * S.length → Closed S (csSt S k).1 ∧ (csSt S k).2 ++ cs S ((allP S.length).drop k) (csSt S k).1 = cs S (allP S.length) []
  | 0, _ => ⟨fun q _ => ⟨fun h => absurd h List.not_mem_nil, fun h => absurd h List.not_mem_nil⟩, rfl⟩
  | k + 1, h => by
    obtain ⟨hc, he⟩ := csSt_cs v k (by omega)
    have hp : InR S.length (prAt k) := prAt_in (by omega)
    rw [drop_prAt (by omega)] at he
    by_cases e : prAt k ∈ (csSt S k).1
    · have z : csSt S (k + 1) = csSt S k := by
        show ((wk S (4 * S.length + 1) (csSt S k).1 (prAt k) []).1, if 0 < (wk S (4 * S.length + 1) (csSt S k).1 (prAt k) []).2.length then (csSt S k).2 ++ [(wk S (4 * S.length + 1) (csSt S k).1 (prAt k) []).2] else (csSt S k).2) = _
        rw [wk_in _ e] <;> rfl
      rw [z]
      refine ⟨hc, ?_⟩
      rw [← he]
      show _ = _ ++ (if prAt k ∈ (csSt S k).1 then _ else _)
      rw [if_pos e]
    · have hpos : 0 < (orb S (prAt k)).length := List.length_pos_of_mem (orb_self v hp)
      have z : csSt S (k + 1) = ((csSt S k).1 ++ orb S (prAt k), (csSt S k).2 ++ [orb S (prAt k)]) := by
        show ((wk S (4 * S.length + 1) (csSt S k).1 (prAt k) []).1, if 0 < (wk S (4 * S.length + 1) (csSt S k).1 (prAt k) []).2.length then (csSt S k).2 ++ [(wk S (4 * S.length + 1) (csSt S k).1 (prAt k) []).2] else (csSt S k).2) = _
        rw [wk_new v hc hp e]
        show (_, if 0 < (orb S (prAt k)).length then _ else _) = _
        rw [if_pos hpos]
      rw [z]
      refine ⟨hc.app v hp, ?_⟩
      rw [← he]
      show ((csSt S k).2 ++ [orb S (prAt k)]) ++ _ = _ ++ (if prAt k ∈ (csSt S k).1 then _ else _)
      rw [if_neg e, List.append_assoc] <;> rfl
theorem cornersM_cs (v : Valid S) : cornersM S = cs S (allP S.length) [] := by
  have h := (csSt_cs v (4 * S.length) (Nat.le_refl _)).2
  rw [List.drop_of_length_le (by rw [allP_len]; exact Nat.le_refl _)] at h
  rw [← h]
  show _ = _ ++ []
  rw [List.append_nil] <;> rfl
/-! ### the law's own -/
def cl (S : Skin) : Nat → List Pr → List (List Pr)
  | 0, _ => []
  | _ + 1, [] => []
  | m + 1, p :: r => orb S p :: cl S m ((p :: r).filter fun q => decide (q ∉ orb S p))
def cornersL (S : Skin) : List (List Pr) := cl S (4 * S.length) (allP S.length)
theorem cl_nil (m : Nat) : cl S m [] = [] := by cases m <;> rfl
theorem cl_cs (v : Valid S) : ∀ (l K : List Pr) (m : Nat), (∀ p ∈ l, InR S.length p) → (l.filter fun q => decide (q ∉ K)).length ≤ m → cl S m (l.filter fun q => decide (q ∉ K)) = cs S l K
  | [], K, m, _, _ => cl_nil m
  | p :: ps, K, m, hin, hm => by
    by_cases e : p ∈ K
    · have z : (p :: ps).filter (fun q => decide (q ∉ K)) = ps.filter fun q => decide (q ∉ K) := List.filter_cons_of_neg (by simpa using e)
      rw [z] at hm ⊢
      rw [cl_cs v ps K m (fun q hq => hin q (List.mem_cons_of_mem _ hq)) hm]
      show _ = if p ∈ K then _ else _
      rw [if_pos e]
    · have z : (p :: ps).filter (fun q => decide (q ∉ K)) = p :: ps.filter fun q => decide (q ∉ K) := List.filter_cons_of_pos (by simpa using e)
      rw [z] at hm ⊢
      rw [List.length_cons] at hm
      obtain ⟨m', rfl⟩ : ∃ m', m = m' + 1 := ⟨m - 1, by omega⟩
      have hp := hin p List.mem_cons_self
      have f : (p :: ps.filter fun q => decide (q ∉ K)).filter (fun q => decide (q ∉ orb S p)) = ps.filter fun q => decide (q ∉ K ++ orb S p) := by
        rw [List.filter_cons_of_neg (by simpa using orb_self v hp), List.filter_filter]
        refine List.filter_congr fun q _ => ?_
        rw [Bool.eq_iff_iff]
        simp only [Bool.and_eq_true, decide_eq_true_eq, List.mem_append, not_or]
        exact And.comm
      show orb S p :: cl S m' ((p :: ps.filter fun q => decide (q ∉ K)).filter fun q => decide (q ∉ orb S p)) = if p ∈ K then _ else _
      rw [if_neg e, f]
      have hlen : (ps.filter fun q => decide (q ∉ K ++ orb S p)).length ≤ m' := by
        rw [← f]
        have := List.length_filter_le (fun q => decide (q ∉ orb S p)) (p :: ps.filter fun q => decide (q ∉ K))
        rw [List.filter_cons_of_neg (by simpa using orb_self v hp)] at this ⊢
        have h2 := List.length_filter_le (fun q => decide (q ∉ orb S p)) (ps.filter fun q => decide (q ∉ K))
        omega
      rw [cl_cs v ps (K ++ orb S p) m' (fun q hq => hin q (List.mem_cons_of_mem _ hq)) hlen]
theorem corners_same (v : Valid S) : cornersM S = cornersL S := by
  have h := cl_cs v (allP S.length) [] (4 * S.length) (fun p hp => mem_allP.mp hp) (by
    have := List.length_filter_le (fun q => decide (q ∉ ([] : List Pr))) (allP S.length)
    rw [allP_len] at this
    exact this)
  have e : (allP S.length).filter (fun q => decide (q ∉ ([] : List Pr))) = allP S.length := List.filter_eq_self.mpr fun q _ => by simp
  rw [e] at h
  rw [cornersM_cs v]
  exact h.symm
/-- each row is the round of a pair; each pair is in a row -/
theorem cs_rows : ∀ (l K : List Pr) (r : List Pr), r ∈ cs S l K → ∃ p ∈ l, r = orb S p
  | p :: ps, K, r, h => by
    unfold cs at h
    split at h
    · obtain ⟨q, hq, e⟩ := cs_rows ps K r h
      exact ⟨q, List.mem_cons_of_mem _ hq, e⟩
    · rcases List.mem_cons.mp h with h | h
      · exact ⟨p, List.mem_cons_self, h⟩
      · obtain ⟨q, hq, e⟩ := cs_rows ps _ r h
        exact ⟨q, List.mem_cons_of_mem _ hq, e⟩
theorem cs_cover (v : Valid S) : ∀ (l K : List Pr), (∀ p ∈ l, InR S.length p) → ∀ p ∈ l, p ∈ K ∨ ∃ r ∈ cs S l K, p ∈ r
  | q :: ps, K, hin, p, hp => by
    unfold cs
    have hin' : ∀ p ∈ ps, InR S.length p := fun p hp => hin p (List.mem_cons_of_mem _ hp)
    split
    · rename_i hq
      rcases List.mem_cons.mp hp with rfl | hp
      · exact .inl hq
      · exact cs_cover v ps K hin' p hp
    · rcases List.mem_cons.mp hp with rfl | hp
      · exact .inr ⟨_, List.mem_cons_self, orb_self v (hin p List.mem_cons_self)⟩
      · rcases cs_cover v ps (K ++ orb S q) hin' p hp with h | ⟨r, h1, h2⟩
        · rcases List.mem_append.mp h with h | h
          · exact .inl h
          · exact .inr ⟨_, List.mem_cons_self, h⟩
        · exact .inr ⟨r, List.mem_cons_of_mem _ h1, h2⟩
theorem rows_orb (v : Valid S) {r : List Pr} (h : r ∈ cornersM S) : ∃ p, InR S.length p ∧ r = orb S p := by
  rw [cornersM_cs v] at h
  obtain ⟨p, hp, e⟩ := cs_rows _ _ _ h
  exact ⟨p, mem_allP.mp hp, e⟩
theorem rows_cover (v : Valid S) {p : Pr} (h : InR S.length p) : ∃ r ∈ cornersM S, p ∈ r := by
  rw [cornersM_cs v]
  rcases cs_cover v (allP S.length) [] (fun p hp => mem_allP.mp hp) p (mem_allP.mpr h) with h | h
  · exact absurd h List.not_mem_nil
  · exact h
theorem cs_len : ∀ (l K : List Pr), (cs S l K).length ≤ l.length
  | [], _ => Nat.le_refl _
  | p :: ps, K => by
    unfold cs
    split
    · have := cs_len ps K
      rw [List.length_cons]
      omega
    · have := cs_len ps (K ++ orb S p)
      rw [List.length_cons, List.length_cons]
      omega
theorem rows_len (v : Valid S) : (cornersM S).length ≤ 4 * S.length := by
  rw [cornersM_cs v]
  have := cs_len (S := S) (allP S.length) []
  rwa [allP_len] at this
theorem rows_pos (v : Valid S) : 0 < (cornersM S).length := by
  obtain ⟨r, h, _⟩ := rows_cover v (p := (0, 0)) ⟨v.sh.pos, by decide⟩
  exact List.length_pos_of_mem h
theorem row_facts (v : Valid S) {r : List Pr} (h : r ∈ cornersM S) : 0 < r.length ∧ r.length ≤ 4 * S.length ∧ r.Nodup ∧ ∀ p ∈ r, InR S.length p := by
  obtain ⟨p, hp, rfl⟩ := rows_orb v h
  exact ⟨List.length_pos_of_mem (orb_self v hp), few_pairs (orb_nd v hp) (fun q hq => orb_in v hp hq), orb_nd v hp, fun q hq => orb_in v hp hq⟩
end
end Hp5

set_option maxHeartbeats 4000000
/-! dicts by pairs; EDGES, their numbers, ends -/
namespace Hp5
open L2
def pk (p : Pr) : List Key := [.inl (p.1 : Int), .inl (p.2 : Int)]
theorem pk_kV (p : Pr) : (pk p).map kV = [V.int p.1, V.int p.2] := rfl
theorem pk_inj {p q : Pr} (h : pk p = pk q) : p = q := by
  obtain ⟨a, b⟩ := p
  obtain ⟨c, d⟩ := q
  unfold pk at h
  injection h with h1 h2
  injection h2 with h2 _
  have e1 := Sum.inl.inj h1
  have e2 := Sum.inl.inj h2
  have f1 : a = c := Int.ofNat.inj e1
  have f2 : b = d := Int.ofNat.inj e2
  rw [f1, f2]
/-- a dict by pairs, as the layer has it -/
def kd (D : List (Pr × V)) : List (List Key × V) := D.map fun x => (pk x.1, x.2)
theorem kd_len (D : List (Pr × V)) : (kd D).length = D.length := List.length_map _
theorem dec_pk (p q : Pr) : decide (pk p = pk q) = decide (p = q) := by
  by_cases h : p = q
  · rw [decide_eq_true h, decide_eq_true (congrArg pk h)]
  · rw [decide_eq_false h, decide_eq_false fun e => h (pk_inj e)]
theorem valV_kd (p : Pr) : ∀ D : List (Pr × V), valV (kd D) (pk p) = valV D p
  | [] => rfl
  | x :: r => by
    by_cases e : x.1 = p
    · rw [valV_pos e]
      show valV ((pk x.1, x.2) :: kd r) (pk p) = _
      rw [valV_pos (congrArg pk e)]
    · rw [valV_neg e]
      show valV ((pk x.1, x.2) :: kd r) (pk p) = _
      rw [valV_neg (fun h => e (pk_inj h)), valV_kd p r]
theorem putK_kd (p : Pr) (v : V) (D : List (Pr × V)) : putK (kd D) (pk p) v = kd (putK D p v) := by
  unfold putK
  have e1 : ((kd D).any fun kv => decide (kv.1 = pk p)) = (D.any fun kv => decide (kv.1 = p)) := by
    unfold kd
    rw [List.any_map]
    exact congrArg (fun f => D.any f) (funext fun x => dec_pk x.1 p)
  rw [e1]
  by_cases h : (D.any fun kv => decide (kv.1 = p)) = true
  · rw [if_pos h, if_pos h]
    unfold kd
    rw [List.map_map, List.map_map]
    refine List.map_congr_left fun x _ => ?_
    show (if pk x.1 = pk p then (pk x.1, v) else (pk x.1, x.2)) = (pk (if x.1 = p then (x.1, v) else x).1, (if x.1 = p then (x.1, v) else x).2)
    by_cases e : x.1 = p
    · rw [if_pos e, if_pos (congrArg pk e)]
    · rw [if_neg e, if_neg fun z => e (pk_inj z)]
  · rw [if_neg h, if_neg h]
    unfold kd
    rw [List.map_append] <;> rfl
/-- all values are numbers -/
def IntsD (D : List (Pr × V)) : Prop := ∀ p v, valV D p = some v → ∃ i : Nat, v = .int i
theorem IntsD.nil : IntsD [] := fun _ _ h => by cases h
theorem IntsD.put {D : List (Pr × V)} (h : IntsD D) (p : Pr) (i : Nat) : IntsD (putK D p (.int i)) := fun q v e => by
  rw [valV_put] at e
  split at e
  · cases e
    exact ⟨i, rfl⟩
  · exact h q v e
def HasK (D : List (Pr × V)) (p : Pr) : Prop := ∃ v, valV D p = some v
theorem HasK.put {D : List (Pr × V)} {p q : Pr} {v : V} (h : HasK D q ∨ q = p) : HasK (putK D p v) q := by
  unfold HasK
  rw [valV_put]
  by_cases e : q = p
  · rw [if_pos e]
    exact ⟨v, rfl⟩
  · rw [if_neg e]
    exact h.resolve_right e
/-- the number that stands at a pair -/
def lookN (D : List (Pr × V)) (p : Pr) : Nat := match valV D p with
  | some (.int i) => i.toNat
  | _ => 0
theorem lookN_at {D : List (Pr × V)} {p : Pr} (hi : IntsD D) (hk : HasK D p) : valV D p = some (.int (lookN D p : Nat)) := by
  obtain ⟨v, hv⟩ := hk
  obtain ⟨i, rfl⟩ := hi p v hv
  unfold lookN
  rw [hv]
  show some (V.int (i : Nat)) = some (V.int (((i : Int).toNat : Nat) : Int))
  rw [Int.toNat_natCast]
theorem putK_len (D : List (Pr × V)) (p : Pr) (v : V) : (putK D p v).length ≤ D.length + 1 := length_putK D p v
/-! ### EDGES -/
def ltP (p q : Pr) : Bool := if p.1 = q.1 then decide (p.2 < q.2) else decide (p.1 < q.1)
theorem lexLt_pr (p q : Pr) : HT.lexLt [(p.1 : Int), (p.2 : Int)] [(q.1 : Int), (q.2 : Int)] = ltP p q := by
  rw [HT.lexLt_cons]
  unfold ltP
  by_cases h : p.1 = q.1
  · rw [if_pos h, if_pos (by rw [h]), HT.lexLt_cons]
    by_cases h2 : p.2 = q.2
    · rw [if_pos (by rw [h2]), HT.lexLt_nil_nil, h2, decide_eq_false (Nat.lt_irrefl _)]
    · rw [if_neg (by omega)]
      by_cases h3 : p.2 < q.2
      · rw [decide_eq_true h3, decide_eq_true (by omega)]
      · rw [decide_eq_false h3, decide_eq_false (by omega)]
  · rw [if_neg h, if_neg (by omega)]
    by_cases h3 : p.1 < q.1
    · rw [decide_eq_true h3, decide_eq_true (by omega)]
    · rw [decide_eq_false h3, decide_eq_false (by omega)]
theorem ltP_total {p q : Pr} (h : p ≠ q) : ltP p q = true ∨ ltP q p = true := by
  obtain ⟨a, b⟩ := p
  obtain ⟨c, d⟩ := q
  unfold ltP
  show (if a = c then decide (b < d) else decide (a < c)) = true ∨ (if c = a then decide (d < b) else decide (c < a)) = true
  by_cases e : a = c
  · rw [if_pos e, if_pos e.symm]
    by_cases e2 : b < d
    · exact .inl (decide_eq_true e2)
    · refine .inr (decide_eq_true ?_)
      have : b ≠ d := fun e3 => h (by rw [e, e3])
      omega
  · rw [if_neg e, if_neg (fun z => e z.symm)]
    by_cases e2 : a < c
    · exact .inl (decide_eq_true e2)
    · exact .inr (decide_eq_true (by omega))
/-- the EDGES of one FIELD, by their lesser CROSSINGS -/
def rowE (S : Skin) (f : Nat) : List Pr := (List.range 4).filterMap fun a => if ltP (f, a) (cr S f a) = true then some (f, a) else none
def edgesTo (S : Skin) (i : Nat) : List Pr := (List.range i).flatMap (rowE S)
def edgesM (S : Skin) : List Pr := edgesTo S S.length
theorem edgesTo_succ (S : Skin) (i : Nat) : edgesTo S (i + 1) = edgesTo S i ++ rowE S i := by
  unfold edgesTo
  rw [List.range_succ, List.flatMap_append, List.flatMap_singleton]
theorem rowE_len (S : Skin) (f : Nat) : (rowE S f).length ≤ 4 := List.length_filterMap_le _ _
theorem edgesTo_len (S : Skin) : ∀ i, (edgesTo S i).length ≤ 4 * i
  | 0 => Nat.le_refl _
  | i + 1 => by
    rw [edgesTo_succ, List.length_append]
    have := edgesTo_len S i
    have := rowE_len S i
    omega
theorem mem_rowE {S : Skin} {f : Nat} {p : Pr} : p ∈ rowE S f ↔ p.1 = f ∧ p.2 < 4 ∧ ltP p (cr S p.1 p.2) = true := by
  unfold rowE
  rw [List.mem_filterMap]
  constructor
  · rintro ⟨a, ha, e⟩
    have ha := List.mem_range.mp ha
    split at e
    · rename_i h
      cases e
      exact ⟨rfl, ha, h⟩
    · cases e
  · rintro ⟨rfl, h2, h3⟩
    exact ⟨p.2, List.mem_range.mpr h2, by rw [if_pos h3]⟩
theorem mem_edges {S : Skin} {p : Pr} : p ∈ edgesM S ↔ InR S.length p ∧ ltP p (cr S p.1 p.2) = true := by
  unfold edgesM edgesTo
  rw [List.mem_flatMap]
  constructor
  · rintro ⟨f, hf, h⟩
    obtain ⟨rfl, h2, h3⟩ := mem_rowE.mp h
    exact ⟨⟨List.mem_range.mp hf, h2⟩, h3⟩
  · rintro ⟨⟨h1, h2⟩, h3⟩
    exact ⟨p.1, List.mem_range.mpr h1, mem_rowE.mpr ⟨rfl, h2, h3⟩⟩
/-- the numbers of the EDGES, behind i of them -/
def namesTo (S : Skin) : Nat → List (Pr × V)
  | 0 => []
  | i + 1 => putK (putK (namesTo S i) ((edgesM S).getD i (0, 0)) (.int (i : Nat))) (cr S ((edgesM S).getD i (0, 0)).1 ((edgesM S).getD i (0, 0)).2) (.int (i : Nat))
def namesM (S : Skin) : List (Pr × V) := namesTo S (edgesM S).length
theorem namesTo_ints (S : Skin) : ∀ i, IntsD (namesTo S i)
  | 0 => .nil
  | i + 1 => ((namesTo_ints S i).put _ _).put _ _
theorem namesTo_len (S : Skin) : ∀ i, (namesTo S i).length ≤ 2 * i
  | 0 => Nat.le_refl _
  | i + 1 => by
    have h1 := namesTo_len S i
    have h2 := putK_len (putK (namesTo S i) ((edgesM S).getD i (0, 0)) (.int (i : Nat))) (cr S ((edgesM S).getD i (0, 0)).1 ((edgesM S).getD i (0, 0)).2) (.int (i : Nat))
    have h3 := putK_len (namesTo S i) ((edgesM S).getD i (0, 0)) (.int (i : Nat))
    show (putK (putK _ _ _) _ _).length ≤ _
    omega
theorem namesTo_has (S : Skin) : ∀ i j e, j < i → (edgesM S)[j]? = some e → HasK (namesTo S i) e ∧ HasK (namesTo S i) (cr S e.1 e.2)
  | i + 1, j, e, hj, he => by
    show HasK (putK (putK _ _ _) _ _) e ∧ HasK (putK (putK _ _ _) _ _) _
    by_cases h : j = i
    · subst h
      have eg : (edgesM S).getD j (0, 0) = e := by rw [List.getD_eq_getElem?_getD, he] <;> rfl
      rw [eg]
      exact ⟨HasK.put (.inl (HasK.put (.inr rfl))), HasK.put (.inr rfl)⟩
    · obtain ⟨h1, h2⟩ := namesTo_has S i j e (by omega) he
      exact ⟨HasK.put (.inl (HasK.put (.inl h1))), HasK.put (.inl (HasK.put (.inl h2)))⟩
theorem names_has {S : Skin} (v : Valid S) {p : Pr} (hp : InR S.length p) : HasK (namesM S) p := by
  obtain ⟨h1, h2⟩ := v.sewn p.1 p.2 hp.1 hp.2
  have hq := v.sh.inR hp.1 hp.2
  rcases ltP_total (p := p) (q := cr S p.1 p.2) (fun e => h1 e.symm) with h | h
  · obtain ⟨j, hj⟩ := List.mem_iff_getElem?.mp (mem_edges.mpr ⟨hp, h⟩)
    exact (namesTo_has S _ j p (List.getElem?_eq_some_iff.mp hj).1 hj).1
  · have hm : cr S p.1 p.2 ∈ edgesM S := mem_edges.mpr ⟨hq, by rw [h2]; exact h⟩
    obtain ⟨j, hj⟩ := List.mem_iff_getElem?.mp hm
    have := (namesTo_has S _ j _ (List.getElem?_eq_some_iff.mp hj).1 hj).2
    rw [h2] at this
    exact this
/-! ### which CORNER has a pair -/
/-- row k put in, behind j of its pairs -/
def atRow (D : List (Pr × V)) (k : Nat) (r : List Pr) : Nat → List (Pr × V)
  | 0 => D
  | j + 1 => putK (atRow D k r j) (r.getD j (0, 0)) (.int (k : Nat))
def atTo (R : List (List Pr)) : Nat → List (Pr × V)
  | 0 => []
  | k + 1 => atRow (atTo R k) k (R.getD k []) (R.getD k []).length
def atM (R : List (List Pr)) : List (Pr × V) := atTo R R.length
theorem atRow_ints {D : List (Pr × V)} (h : IntsD D) (k : Nat) (r : List Pr) : ∀ j, IntsD (atRow D k r j)
  | 0 => h
  | j + 1 => (atRow_ints h k r j).put _ _
theorem atTo_ints (R : List (List Pr)) : ∀ k, IntsD (atTo R k)
  | 0 => .nil
  | k + 1 => atRow_ints (atTo_ints R k) k _ _
theorem atRow_len (D : List (Pr × V)) (k : Nat) (r : List Pr) : ∀ j, (atRow D k r j).length ≤ D.length + j
  | 0 => Nat.le_refl _
  | j + 1 => by
    have := atRow_len D k r j
    have := putK_len (atRow D k r j) (r.getD j (0, 0)) (.int (k : Nat))
    show (putK _ _ _).length ≤ _
    omega
theorem atRow_keep {D : List (Pr × V)} {p : Pr} (h : HasK D p) (k : Nat) (r : List Pr) : ∀ j, HasK (atRow D k r j) p
  | 0 => h
  | j + 1 => HasK.put (.inl (atRow_keep h k r j))
theorem atRow_has {D : List (Pr × V)} (k : Nat) (r : List Pr) : ∀ j i p, i < j → r[i]? = some p → HasK (atRow D k r j) p
  | j + 1, i, p, hi, hp => by
    by_cases e : i = j
    · subst e
      have eg : r.getD i (0, 0) = p := by rw [List.getD_eq_getElem?_getD, hp] <;> rfl
      exact HasK.put (.inr eg.symm)
    · exact HasK.put (.inl (atRow_has k r j i p (by omega) hp))
theorem atTo_has (R : List (List Pr)) : ∀ k i r p, i < k → R[i]? = some r → p ∈ r → HasK (atTo R k) p
  | k + 1, i, r, p, hi, hr, hp => by
    by_cases e : i = k
    · subst e
      have eg : R.getD i [] = r := by rw [List.getD_eq_getElem?_getD, hr] <;> rfl
      obtain ⟨j, hj⟩ := List.mem_iff_getElem?.mp hp
      show HasK (atRow _ i (R.getD i []) (R.getD i []).length) p
      rw [eg]
      exact atRow_has i r _ j p (List.getElem?_eq_some_iff.mp hj).1 hj
    · exact atRow_keep (atTo_has R k i r p (by omega) hr hp) _ _ _
theorem at_has {S : Skin} (v : Valid S) {p : Pr} (hp : InR S.length p) : HasK (atM (cornersM S)) p := by
  obtain ⟨r, hr, h⟩ := rows_cover v hp
  obtain ⟨i, hi⟩ := List.mem_iff_getElem?.mp hr
  exact atTo_has _ _ i r p (List.getElem?_eq_some_iff.mp hi).1 hi h
/-- the keys of such a dict are pairs of the skin: few -/
def KeysIn (n : Nat) (D : List (Pr × V)) : Prop := (D.map (·.1)).Nodup ∧ ∀ p ∈ D.map (·.1), InR n p
theorem KeysIn.nil (n : Nat) : KeysIn n [] := ⟨List.nodup_nil, fun _ h => absurd h List.not_mem_nil⟩
theorem KeysIn.len {n : Nat} {D : List (Pr × V)} (h : KeysIn n D) : D.length ≤ 4 * n := by
  have := few_pairs h.1 h.2
  rwa [List.length_map] at this
theorem KeysIn.put {n : Nat} {D : List (Pr × V)} (h : KeysIn n D) {p : Pr} (hp : InR n p) (v : V) : KeysIn n (putK D p v) := by
  unfold putK
  by_cases e : (D.any fun kv => decide (kv.1 = p)) = true
  · rw [if_pos e]
    have z : (D.map fun kv => if kv.1 = p then (kv.1, v) else kv).map (·.1) = D.map (·.1) := by
      rw [List.map_map]
      refine List.map_congr_left fun x _ => ?_
      show (if x.1 = p then (x.1, v) else x).1 = x.1
      split <;> rfl
    unfold KeysIn
    rw [z]
    exact h
  · rw [if_neg e]
    have hn : p ∉ D.map (·.1) := fun hm => by
      obtain ⟨x, hx, ex⟩ := List.mem_map.mp hm
      exact e (List.any_eq_true.mpr ⟨x, hx, decide_eq_true ex⟩)
    have z : (D ++ [(p, v)]).map (·.1) = D.map (·.1) ++ [p] := by rw [List.map_append] <;> rfl
    unfold KeysIn
    rw [z]
    refine ⟨?_, fun q hq => ?_⟩
    · rw [List.nodup_append]
      refine ⟨h.1, List.nodup_cons.mpr ⟨List.not_mem_nil, List.nodup_nil⟩, fun a ha b hb e => ?_⟩
      rw [List.mem_singleton] at hb
      exact hn (hb ▸ e ▸ ha)
    · rcases List.mem_append.mp hq with hq | hq
      · exact h.2 q hq
      · rw [List.mem_singleton] at hq
        exact hq ▸ hp
/-- both ends of the EDGES -/
def endsM (S : Skin) : List Pr := (edgesM S).map fun e => (lookN (atM (cornersM S)) e, lookN (atM (cornersM S)) (e.1, (e.2 + 1) % 4))
/-- the EDGES round a CORNER -/
def roundM (S : Skin) (r : List Pr) : List Nat := r.map fun p => lookN (namesM S) (p.1, (p.2 + 3) % 4)
end Hp5

set_option maxHeartbeats 4000000
/-! what comes together by EDGES alone: labels that fall -/
namespace Hp5
section
variable {S : Skin}
def Lab (v : List Nat) (p : Pr) : Nat := v.getD (ix p) 0
def low (S : Skin) (v : List Nat) (k : Nat) : Nat := min (v.getD k 0) (v.getD (ix (bk S (prAt k))) 0)
def lstep (S : Skin) (v : List Nat) (k : Nat) : List Nat := (v.set k (low S v k)).set (ix (bk S (prAt k))) (low S v k)
def lapTo (S : Skin) (v : List Nat) : Nat → List Nat
  | 0 => v
  | k + 1 => lstep S (lapTo S v k) k
def lap (S : Skin) (v : List Nat) : List Nat := lapTo S v (4 * S.length)
def lapsN (S : Skin) : Nat → List Nat → List Nat
  | 0, v => v
  | m + 1, v => if lap S v = v then v else lapsN S m (lap S v)
def lotsM (S : Skin) : List Nat := lapsN S (4 * S.length) (List.range (4 * S.length))
theorem lstep_len (v : List Nat) (k : Nat) : (lstep S v k).length = v.length := by unfold lstep; rw [List.length_set, List.length_set]
theorem lapTo_len (v : List Nat) : ∀ k, (lapTo S v k).length = v.length
  | 0 => rfl
  | k + 1 => (lstep_len _ k).trans (lapTo_len v k)
theorem lapsN_len : ∀ (m : Nat) (v : List Nat), (lapsN S m v).length = v.length
  | 0, _ => rfl
  | m + 1, v => by
    unfold lapsN
    split
    · rfl
    · rw [lapsN_len m]
      exact lapTo_len v _
theorem getD_set {v : List Nat} {i j x : Nat} (h : i < v.length) : (v.set i x).getD j 0 = if j = i then x else v.getD j 0 := by
  rw [List.getD_eq_getElem?_getD, List.getElem?_set, List.getD_eq_getElem?_getD]
  by_cases e : i = j
  · subst e
    rw [if_pos rfl, if_pos rfl, if_pos h] <;> rfl
  · rw [if_neg e, if_neg (fun z => e z.symm)]
theorem lstep_get (sh : Shaped S) {v : List Nat} (hv : v.length = 4 * S.length) {k j : Nat} (hk : k < 4 * S.length) : (lstep S v k).getD j 0 = if j = ix (bk S (prAt k)) then low S v k else if j = k then low S v k else v.getD j 0 := by
  unfold lstep
  have h2 : ix (bk S (prAt k)) < 4 * S.length := ix_lt (bk_in sh (prAt_in hk))
  rw [getD_set (by rw [List.length_set, hv]; exact h2), getD_set (by rw [hv]; exact hk)]
theorem lstep_le (sh : Shaped S) {v : List Nat} (hv : v.length = 4 * S.length) {k j : Nat} (hk : k < 4 * S.length) : (lstep S v k).getD j 0 ≤ v.getD j 0 := by
  rw [lstep_get sh hv hk]
  by_cases h1 : j = ix (bk S (prAt k))
  · rw [if_pos h1, h1]
    exact Nat.min_le_right _ _
  · rw [if_neg h1]
    by_cases h2 : j = k
    · rw [if_pos h2, h2]
      exact Nat.min_le_left _ _
    · rw [if_neg h2]
      exact Nat.le_refl _
theorem lapTo_mono (sh : Shaped S) {v : List Nat} (hv : v.length = 4 * S.length) (j : Nat) : ∀ (d k : Nat), k + d ≤ 4 * S.length → (lapTo S v (k + d)).getD j 0 ≤ (lapTo S v k).getD j 0
  | 0, _, _ => Nat.le_refl _
  | d + 1, k, h => by
    have e : k + (d + 1) = (k + d) + 1 := by omega
    rw [e]
    exact Nat.le_trans (lstep_le sh (by rw [lapTo_len, hv]) (by omega)) (lapTo_mono sh hv j d k (by omega))
/-! ### where labels come from -/
/-- a predicate that rounds keep -/
def Cl (S : Skin) (X : Pr → Prop) : Prop := ∀ q, InR S.length q → (X q ↔ X (nx S q))
def From (S : Skin) (v : List Nat) : Prop := v.length = 4 * S.length ∧ ∀ k, k < 4 * S.length → v.getD k 0 < 4 * S.length ∧ ∀ X, Cl S X → (X (prAt (v.getD k 0)) ↔ X (prAt k))
theorem From.start (S : Skin) : From S (List.range (4 * S.length)) := by
  refine ⟨List.length_range, fun k hk => ?_⟩
  have e : (List.range (4 * S.length)).getD k 0 = k := by rw [List.getD_eq_getElem?_getD, List.getElem?_range hk] <;> rfl
  rw [e]
  exact ⟨hk, fun _ _ => Iff.rfl⟩
theorem low_from (vv : Valid S) {v : List Nat} (h : From S v) {k : Nat} (hk : k < 4 * S.length) : low S v k < 4 * S.length ∧ ∀ X, Cl S X → (X (prAt (low S v k)) ↔ X (prAt k)) := by
  have h2 : ix (bk S (prAt k)) < 4 * S.length := ix_lt (bk_in vv.sh (prAt_in hk))
  obtain ⟨a1, a2⟩ := h.2 k hk
  obtain ⟨b1, b2⟩ := h.2 _ h2
  unfold low
  rcases Nat.le_total (v.getD k 0) (v.getD (ix (bk S (prAt k))) 0) with hl | hl
  · rw [Nat.min_eq_left hl]
    exact ⟨a1, a2⟩
  · rw [Nat.min_eq_right hl]
    refine ⟨b1, fun X hX => ?_⟩
    rw [b2 X hX, prAt_ix (bk_in vv.sh (prAt_in hk)), hX _ (bk_in vv.sh (prAt_in hk)), nx_bk vv (prAt_in hk)]
theorem From.step (vv : Valid S) {v : List Nat} (h : From S v) {k : Nat} (hk : k < 4 * S.length) : From S (lstep S v k) := by
  refine ⟨(lstep_len v k).trans h.1, fun j hj => ?_⟩
  obtain ⟨l1, l2⟩ := low_from vv h hk
  rw [lstep_get vv.sh h.1 hk]
  by_cases h1 : j = ix (bk S (prAt k))
  · rw [if_pos h1]
    refine ⟨l1, fun X hX => ?_⟩
    rw [l2 X hX, h1, prAt_ix (bk_in vv.sh (prAt_in hk)), hX _ (bk_in vv.sh (prAt_in hk)), nx_bk vv (prAt_in hk)]
  · rw [if_neg h1]
    by_cases h2 : j = k
    · rw [if_pos h2, h2]
      exact ⟨l1, l2⟩
    · rw [if_neg h2]
      exact h.2 j hj
theorem From.lapTo (vv : Valid S) {v : List Nat} (h : From S v) : ∀ k, k ≤ 4 * S.length → From S (lapTo S v k)
  | 0, _ => h
  | k + 1, hk => (From.lapTo vv h k (by omega)).step vv (by omega)
theorem From.lap (vv : Valid S) {v : List Nat} (h : From S v) : From S (lap S v) := h.lapTo vv _ (Nat.le_refl _)
theorem From.laps (vv : Valid S) : ∀ (m : Nat) {v : List Nat}, From S v → From S (lapsN S m v)
  | 0, _, h => h
  | m + 1, v, h => by
    unfold lapsN
    split
    · exact h
    · exact From.laps vv m (h.lap vv)
/-! ### the end of the laps -/
def Even (S : Skin) (v : List Nat) : Prop := ∀ k, k < 4 * S.length → v.getD k 0 = v.getD (ix (bk S (prAt k))) 0
theorem even_of_fix (vv : Valid S) {v : List Nat} (hv : v.length = 4 * S.length) (h : lap S v = v) : Even S v := by
  have same : ∀ k j, k ≤ 4 * S.length → (lapTo S v k).getD j 0 = v.getD j 0 := fun k j hk => by
    have h1 := lapTo_mono vv.sh hv j k 0 (by omega)
    rw [Nat.zero_add] at h1
    have h2 := lapTo_mono vv.sh hv j (4 * S.length - k) k (by omega)
    rw [show k + (4 * S.length - k) = 4 * S.length by omega] at h2
    rw [show lapTo S v (4 * S.length) = v from h] at h2
    exact Nat.le_antisymm h1 h2
  intro k hk
  have hs := lstep_get vv.sh (v := lapTo S v k) (by rw [lapTo_len, hv]) (k := k) (j := ix (bk S (prAt k))) hk
  rw [if_pos rfl] at hs
  have hl : low S (lapTo S v k) k = min (v.getD k 0) (v.getD (ix (bk S (prAt k))) 0) := by
    unfold low
    rw [same k _ (by omega), same k _ (by omega)]
  have e1 : v.getD (ix (bk S (prAt k))) 0 = min (v.getD k 0) (v.getD (ix (bk S (prAt k))) 0) := by
    rw [← hl, ← hs]
    exact (same (k + 1) _ (by omega)).symm
  have hs2 := lstep_get vv.sh (v := lapTo S v k) (by rw [lapTo_len, hv]) (k := k) (j := k) hk
  have e2 : v.getD k 0 = min (v.getD k 0) (v.getD (ix (bk S (prAt k))) 0) := by
    have e3 : (lstep S (lapTo S v k) k).getD k 0 = v.getD k 0 := same (k + 1) k (by omega)
    rw [e3] at hs2
    split at hs2
    · rw [← hl]
      exact hs2
    · rw [if_pos rfl] at hs2
      rw [← hl]
      exact hs2
  exact e2.trans e1.symm
/-- the least of a round has come so far -/
structure Far (S : Skin) (v : List Nat) (q : Pr) (j : Nat) : Prop where
  at_ : ∀ i, i ≤ j → Lab v (it S i q) = ix q
theorem lab_ge (vv : Valid S) {v : List Nat} (h : From S v) {p q : Pr} (hp : InR S.length p) (hmin : ∀ x ∈ orb S p, ix q ≤ ix x) {x : Pr} (hx : x ∈ orb S p) : ix q ≤ Lab v x := by
  have hxi := orb_in vv hp hx
  obtain ⟨h1, h2⟩ := h.2 (ix x) (ix_lt hxi)
  have h3 := (h2 (fun y => y ∈ orb S p) (fun y hy => orb_closed vv hp hy)).mpr (by rw [prAt_ix hxi]; exact hx)
  have h4 := hmin _ h3
  rw [ix_prAt] at h4
  exact h4
theorem orb_it (vv : Valid S) {p : Pr} (hp : InR S.length p) {q : Pr} (hq : q ∈ orb S p) : ∀ i, it S i q ∈ orb S p
  | 0 => hq
  | i + 1 => (orb_closed vv hp (it_in vv.sh (orb_in vv hp hq) i)).mp (orb_it vv hp hq i)
theorem far_lap (vv : Valid S) {v : List Nat} (h : From S v) {p q : Pr} (hp : InR S.length p) (hq : q ∈ orb S p) (hmin : ∀ x ∈ orb S p, ix q ≤ ix x) {j : Nat} (f : Far S v q j) : Far S (lap S v) q (j + 1) := by
  have hqi := orb_in vv hp hq
  -- what is least stays so
  have stay : ∀ k x, k ≤ 4 * S.length → x ∈ orb S p → Lab v x = ix q → Lab (lapTo S v k) x = ix q := fun k x hk hx e => by
    have h1 : Lab (lapTo S v k) x ≤ Lab v x := by
      have := lapTo_mono vv.sh h.1 (ix x) k 0 (by omega)
      rw [Nat.zero_add] at this
      exact this
    have h2 := lab_ge vv (h.lapTo vv k hk) hp hmin hx
    omega
  refine ⟨fun i hi => ?_⟩
  by_cases e : i ≤ j
  · exact stay _ _ (Nat.le_refl _) (orb_it vv hp hq i) (f.at_ i e)
  · have e2 : i = j + 1 := by omega
    subst e2
    have hown : it S (j + 1) q ∈ orb S p := orb_it vv hp hq (j + 1)
    have hoi := orb_in vv hp hown
    have hk := ix_lt hoi
    have hpv : bk S (it S (j + 1) q) = it S j q := bk_nx vv (it_in vv.sh hqi j)
    have hs := lstep_get vv.sh (v := lapTo S v (ix (it S (j + 1) q))) (by rw [lapTo_len, h.1]) (k := ix (it S (j + 1) q)) (j := ix (it S (j + 1) q)) hk
    have hl : low S (lapTo S v (ix (it S (j + 1) q))) (ix (it S (j + 1) q)) ≤ ix q := by
      unfold low
      rw [prAt_ix hoi, hpv]
      have := stay (ix (it S (j + 1) q)) (it S j q) (by omega) (orb_it vv hp hq j) (f.at_ j (Nat.le_refl _))
      exact Nat.le_trans (Nat.min_le_right _ _) (Nat.le_of_eq this)
    have h1 : (lapTo S v (ix (it S (j + 1) q) + 1)).getD (ix (it S (j + 1) q)) 0 ≤ ix q := by
      show (lstep S _ _).getD _ 0 ≤ _
      rw [hs]
      split
      · exact hl
      · rw [if_pos rfl]
        exact hl
    have h2 : Lab (lap S v) (it S (j + 1) q) ≤ (lapTo S v (ix (it S (j + 1) q) + 1)).getD (ix (it S (j + 1) q)) 0 := by
      have := lapTo_mono vv.sh h.1 (ix (it S (j + 1) q)) (4 * S.length - (ix (it S (j + 1) q) + 1)) (ix (it S (j + 1) q) + 1) (by omega)
      rw [show ix (it S (j + 1) q) + 1 + (4 * S.length - (ix (it S (j + 1) q) + 1)) = 4 * S.length by omega] at this
      exact this
    have h3 := lab_ge vv (h.lap vv) hp hmin hown
    omega
theorem least_of {l : List Pr} (h : l ≠ []) : ∃ q ∈ l, ∀ x ∈ l, ix q ≤ ix x := by
  induction l with
  | nil => exact absurd rfl h
  | cons a r ih =>
    by_cases hr : r = []
    · subst hr
      exact ⟨a, List.mem_cons_self, fun x hx => by
        rw [List.mem_singleton] at hx
        rw [hx]
        exact Nat.le_refl _⟩
    · obtain ⟨q, hq, hm⟩ := ih hr
      rcases Nat.le_total (ix a) (ix q) with hl | hl
      · refine ⟨a, List.mem_cons_self, fun x hx => ?_⟩
        rcases List.mem_cons.mp hx with rfl | hx
        · exact Nat.le_refl _
        · exact Nat.le_trans hl (hm x hx)
      · refine ⟨q, List.mem_cons_of_mem _ hq, fun x hx => ?_⟩
        rcases List.mem_cons.mp hx with rfl | hx
        · exact hl
        · exact hm x hx
/-- from any pair of a round one comes to each other one in fewer steps than its length -/
theorem orb_reach (vv : Valid S) {p : Pr} (hp : InR S.length p) {q x : Pr} (hq : q ∈ orb S p) (hx : x ∈ orb S p) : ∃ i, i ≤ 4 * S.length ∧ it S i q = x := by
  obtain ⟨L, h, e⟩ := orb_per vv hp
  rw [e] at hq hx
  obtain ⟨a, ha, rfl⟩ := mem_ts.mp hq
  obtain ⟨b, hb, rfl⟩ := mem_ts.mp hx
  have hf := h.few
  by_cases hab : a ≤ b
  · refine ⟨b - a, by omega, ?_⟩
    rw [← it_add, show b - a + a = b by omega]
  · refine ⟨b + (L - a), by omega, ?_⟩
    rw [← it_add, show b + (L - a) + a = b + L by omega, it_add, h.home]
theorem even_of_far (vv : Valid S) {v : List Nat} (h : ∀ p, InR S.length p → ∀ q ∈ orb S p, (∀ x ∈ orb S p, ix q ≤ ix x) → Far S v q (4 * S.length)) : Even S v := by
  intro k hk
  have hp := prAt_in (n := S.length) hk
  obtain ⟨q, hq, hm⟩ := least_of (l := orb S (prAt k)) (fun e => by
    have := orb_self vv hp
    rw [e] at this
    exact absurd this List.not_mem_nil)
  have f := h _ hp q hq hm
  have hpv : bk S (prAt k) ∈ orb S (prAt k) := (orb_closed vv hp (bk_in vv.sh hp)).mpr (by rw [nx_bk vv hp]; exact orb_self vv hp)
  obtain ⟨i, hi, ei⟩ := orb_reach vv hp hq (orb_self vv hp)
  obtain ⟨j, hj, ej⟩ := orb_reach vv hp hq hpv
  have e1 := f.at_ i hi
  have e2 := f.at_ j hj
  rw [ei] at e1
  rw [ej] at e2
  unfold Lab at e1 e2
  rw [ix_prAt] at e1
  rw [e1, e2]
theorem laps_even (vv : Valid S) : ∀ (m j : Nat) {v : List Nat}, j + m = 4 * S.length → From S v → (∀ p, InR S.length p → ∀ q ∈ orb S p, (∀ x ∈ orb S p, ix q ≤ ix x) → Far S v q j) → Even S (lapsN S m v)
  | 0, j, v, e, h, f => even_of_far vv fun p hp q hq hm => by
    have := f p hp q hq hm
    rwa [show j = 4 * S.length by omega] at this
  | m + 1, j, v, e, h, f => by
    unfold lapsN
    split
    · rename_i hfix
      exact even_of_fix vv h.1 hfix
    · exact laps_even vv m (j + 1) (by omega) (h.lap vv) fun p hp q hq hm => far_lap vv h hp hq hm (f p hp q hq hm)
theorem lots_even (vv : Valid S) : Even S (lotsM S) := laps_even vv _ 0 (by omega) (From.start S) fun p hp q hq hm => ⟨fun i hi => by
  have e : i = 0 := by omega
  subst e
  have hqi := orb_in vv hp hq
  show (List.range (4 * S.length)).getD (ix q) 0 = ix q
  rw [List.getD_eq_getElem?_getD, List.getElem?_range (ix_lt hqi)] <;> rfl⟩
theorem lots_from (vv : Valid S) : From S (lotsM S) := From.laps vv _ (From.start S)
theorem lots_len (S : Skin) : (lotsM S).length = 4 * S.length := (lapsN_len _ _).trans List.length_range
/-- one label a round -/
theorem lots_nx (vv : Valid S) {p : Pr} (hp : InR S.length p) : Lab (lotsM S) (nx S p) = Lab (lotsM S) p := by
  have hn := nx_in vv.sh hp
  have h := lots_even vv (ix (nx S p)) (ix_lt hn)
  rw [prAt_ix hn, bk_nx vv hp] at h
  exact h
theorem lots_it (vv : Valid S) {p : Pr} (hp : InR S.length p) : ∀ i, Lab (lotsM S) (it S i p) = Lab (lotsM S) p
  | 0 => rfl
  | i + 1 => (lots_nx vv (it_in vv.sh hp i)).trans (lots_it vv hp i)
theorem lots_const (vv : Valid S) {p q : Pr} (hp : InR S.length p) (hq : q ∈ orb S p) : Lab (lotsM S) q = Lab (lotsM S) p := by
  obtain ⟨i, _, e⟩ := orb_reach vv hp (orb_self vv hp) hq
  rw [← e]
  exact lots_it vv hp i
/-- labels part the rounds -/
theorem lots_iff (vv : Valid S) {p q : Pr} (hp : InR S.length p) (hq : InR S.length q) : Lab (lotsM S) q = Lab (lotsM S) p ↔ q ∈ orb S p := by
  refine ⟨fun e => ?_, fun h => lots_const vv hp h⟩
  have X := (lots_from vv).2
  have c : Cl S fun y => y ∈ orb S p := fun y hy => orb_closed vv hp hy
  have h1 := (X (ix p) (ix_lt hp)).2 _ c
  have h2 := (X (ix q) (ix_lt hq)).2 _ c
  rw [prAt_ix hp] at h1
  rw [prAt_ix hq] at h2
  refine h2.mp ?_
  have e2 : (lotsM S).getD (ix q) 0 = (lotsM S).getD (ix p) 0 := e
  rw [e2]
  exact h1.mpr (orb_self vv hp)
theorem lots_count (vv : Valid S) {p : Pr} (hp : InR S.length p) : ((List.range (4 * S.length)).filter fun k => decide ((lotsM S).getD k 0 = Lab (lotsM S) p)).length = (orb S p).length := by
  have hnd : ((orb S p).map ix).Nodup := by
    rw [List.nodup_iff_pairwise_ne, List.pairwise_map]
    refine List.Pairwise.imp_of_mem (fun {a b} ha hb hab e => hab ?_) (List.nodup_iff_pairwise_ne.mp (orb_nd vv hp))
    exact ix_inj (orb_in vv hp ha) (orb_in vv hp hb) e
  have := nd_same (l := (List.range (4 * S.length)).filter fun k => decide ((lotsM S).getD k 0 = Lab (lotsM S) p)) (m := (orb S p).map ix) (List.nodup_range.filter _) hnd fun k => by
    rw [List.mem_filter, List.mem_range, decide_eq_true_eq, List.mem_map]
    constructor
    · rintro ⟨h1, h2⟩
      refine ⟨prAt k, (lots_iff vv hp (prAt_in h1)).mp ?_, ix_prAt k⟩
      unfold Lab
      rw [ix_prAt]
      exact h2
    · rintro ⟨q, hq, rfl⟩
      exact ⟨ix_lt (orb_in vv hp hq), lots_const vv hp hq⟩
  rw [this, List.length_map]
end
end Hp5

set_option maxHeartbeats 4000000
/-! twice as many EDGES as FIELDS -/
namespace Hp5
section
variable {S : Skin}
def lesser (S : Skin) (p : Pr) : Bool := ltP p (cr S p.1 p.2)
theorem edgesTo_filter (S : Skin) : ∀ i, edgesTo S i = ((List.range (4 * i)).map prAt).filter (lesser S)
  | 0 => rfl
  | i + 1 => by
    rw [edgesTo_succ, edgesTo_filter S i]
    have e : List.range (4 * (i + 1)) = List.range (4 * i) ++ [4 * i, 4 * i + 1, 4 * i + 2, 4 * i + 3] := by
      rw [show 4 * (i + 1) = 4 * i + 1 + 1 + 1 + 1 by omega, List.range_succ, List.range_succ, List.range_succ, List.range_succ]
      simp
    rw [e, List.map_append, List.filter_append]
    congr 1
    have a0 : prAt (4 * i) = (i, 0) := by show (4 * i / 4, 4 * i % 4) = _; rw [show 4 * i / 4 = i by omega, show 4 * i % 4 = 0 by omega]
    have a1 : prAt (4 * i + 1) = (i, 1) := by show ((4 * i + 1) / 4, (4 * i + 1) % 4) = _; rw [show (4 * i + 1) / 4 = i by omega, show (4 * i + 1) % 4 = 1 by omega]
    have a2 : prAt (4 * i + 2) = (i, 2) := by show ((4 * i + 2) / 4, (4 * i + 2) % 4) = _; rw [show (4 * i + 2) / 4 = i by omega, show (4 * i + 2) % 4 = 2 by omega]
    have a3 : prAt (4 * i + 3) = (i, 3) := by show ((4 * i + 3) / 4, (4 * i + 3) % 4) = _; rw [show (4 * i + 3) / 4 = i by omega, show (4 * i + 3) % 4 = 3 by omega]
    rw [List.map_cons, List.map_cons, List.map_cons, List.map_cons, List.map_nil, a0, a1, a2, a3]
    unfold rowE
    rw [show List.range 4 = [0, 1, 2, 3] by decide]
    have h : ∀ a, lesser S (i, a) = ltP (i, a) (cr S i a) := fun a => rfl
    simp only [List.filterMap_cons, List.filterMap_nil, List.filter_cons, List.filter_nil, h]
    cases ltP (i, 0) (cr S i 0) <;> cases ltP (i, 1) (cr S i 1) <;> cases ltP (i, 2) (cr S i 2) <;> cases ltP (i, 3) (cr S i 3) <;> rfl
theorem edges_filter (S : Skin) : edgesM S = (allP S.length).filter (lesser S) := edgesTo_filter S S.length
theorem edges_nd (S : Skin) : (edgesM S).Nodup := by
  rw [edges_filter]
  exact (allP_nd _).filter _
theorem ltP_asymm {p q : Pr} (h : ltP p q = true) : ltP q p = false := by
  obtain ⟨a, b⟩ := p
  obtain ⟨c, d⟩ := q
  unfold ltP at h ⊢
  have h' : (if a = c then decide (b < d) else decide (a < c)) = true := h
  show (if c = a then decide (d < b) else decide (c < a)) = false
  by_cases e : a = c
  · rw [if_pos e] at h'
    rw [if_pos e.symm]
    have := of_decide_eq_true h'
    exact decide_eq_false (by omega)
  · rw [if_neg e] at h'
    rw [if_neg fun z => e z.symm]
    have := of_decide_eq_true h'
    exact decide_eq_false (by omega)
theorem edges_len (v : Valid S) : (edgesM S).length = 2 * S.length := by
  have hm := fun p => mem_edges (S := S) (p := p)
  have nd : (edgesM S ++ (edgesM S).map fun p => cr S p.1 p.2).Nodup := by
    rw [List.nodup_append]
    refine ⟨edges_nd S, ?_, fun a ha b hb e => ?_⟩
    · rw [List.nodup_iff_pairwise_ne, List.pairwise_map]
      refine List.Pairwise.imp_of_mem (fun {a b} ha hb hab e => hab ?_) (List.nodup_iff_pairwise_ne.mp (edges_nd S))
      have ia := ((hm a).mp ha).1
      have ib := ((hm b).mp hb).1
      have h1 := (v.sewn a.1 a.2 ia.1 ia.2).2
      have h2 := (v.sewn b.1 b.2 ib.1 ib.2).2
      rw [e] at h1
      exact h1.symm.trans h2
    · obtain ⟨q, hq, rfl⟩ := List.mem_map.mp hb
      obtain ⟨iq, lq⟩ := (hm q).mp hq
      obtain ⟨_, la⟩ := (hm a).mp ha
      have h2 := (v.sewn q.1 q.2 iq.1 iq.2).2
      rw [e, h2] at la
      rw [ltP_asymm lq] at la
      exact Bool.noConfusion la
  have := nd_same nd (allP_nd S.length) fun p => by
    rw [List.mem_append, mem_allP]
    constructor
    · rintro (h | h)
      · exact ((hm p).mp h).1
      · obtain ⟨q, hq, rfl⟩ := List.mem_map.mp h
        have iq := ((hm q).mp hq).1
        exact v.sh.inR iq.1 iq.2
    · intro h
      obtain ⟨h1, h2⟩ := v.sewn p.1 p.2 h.1 h.2
      rcases ltP_total (p := p) (q := cr S p.1 p.2) (fun e => h1 e.symm) with z | z
      · exact .inl ((hm p).mpr ⟨h, z⟩)
      · refine .inr (List.mem_map.mpr ⟨cr S p.1 p.2, (hm _).mpr ⟨v.sh.inR h.1 h.2, by rw [h2]; exact z⟩, h2⟩)
  rw [List.length_append, List.length_map, allP_len] at this
  omega
end
end Hp5

set_option maxHeartbeats 4000000
/-! squares; a test that tells a valid skin; labels of FIELDS -/
namespace Hp5
def sqRow (w h k : Nat) : List Pr := [(k / w * w + (k % w + 1) % w, 2), ((k / w + 1) % h * w + k % w, 3), (k / w * w + (k % w + (w - 1)) % w, 0), ((k / w + (h - 1)) % h * w + k % w, 1)]
def squareM (w h : Nat) : Skin := (List.range (w * h)).map (sqRow w h)
/-! ### a test -/
def reachN (S : Skin) : Nat → List Nat
  | 0 => [0]
  | m + 1 => (List.range S.length).filter fun g => (reachN S m).any fun f => decide (f = g) || (List.range 4).any fun a => decide (f < S.length) && decide ((cr S f a).1 = g)
def validB (S : Skin) : Bool :=
  decide (0 < S.length) && decide (S.length ≤ 12) && (S.all fun r => decide (r.length = 4) && r.all fun p => decide (p.1 < S.length) && decide (p.2 < 4))
    && ((List.range S.length).all fun f => (List.range 4).all fun a => decide (cr S f a ≠ (f, a)) && decide (cr S (cr S f a).1 (cr S f a).2 = (f, a)))
    && (List.range S.length).all fun f => (reachN S S.length).contains f
theorem reach_ok {S : Skin} {X : Nat → Prop} (h0 : X 0) (hx : ∀ f a, f < S.length → a < 4 → X f → X (cr S f a).1) : ∀ m, ∀ f ∈ reachN S m, X f
  | 0, f, h => by
    have : f ∈ [0] := h
    rw [List.mem_singleton] at this
    exact this ▸ h0
  | m + 1, g, h => by
    have h : g ∈ (List.range S.length).filter fun g => (reachN S m).any fun f => decide (f = g) || (List.range 4).any fun a => decide (f < S.length) && decide ((cr S f a).1 = g) := h
    obtain ⟨f, hf, e⟩ := List.any_eq_true.mp (List.mem_filter.mp h).2
    have ih := reach_ok h0 hx m f hf
    rcases (Bool.or_eq_true _ _).mp e with e | e
    · exact of_decide_eq_true e ▸ ih
    · obtain ⟨a, ha, e⟩ := List.any_eq_true.mp e
      obtain ⟨e1, e2⟩ := (Bool.and_eq_true _ _).mp e
      exact of_decide_eq_true e2 ▸ hx f a (of_decide_eq_true e1) (List.mem_range.mp ha) ih
theorem valid_of {S : Skin} (h : validB S = true) : Valid S := by
  unfold validB at h
  obtain ⟨h, h5⟩ := (Bool.and_eq_true _ _).mp h
  obtain ⟨h, h4⟩ := (Bool.and_eq_true _ _).mp h
  obtain ⟨h, h3⟩ := (Bool.and_eq_true _ _).mp h
  obtain ⟨h1, h2⟩ := (Bool.and_eq_true _ _).mp h
  refine ⟨⟨of_decide_eq_true h1, of_decide_eq_true h2, fun r hr => ?_⟩, fun f a hf ha => ?_, fun X h0 hx f hf => ?_⟩
  · obtain ⟨g1, g2⟩ := (Bool.and_eq_true _ _).mp (List.all_eq_true.mp h3 r hr)
    refine ⟨of_decide_eq_true g1, fun p hp => ?_⟩
    obtain ⟨k1, k2⟩ := (Bool.and_eq_true _ _).mp (List.all_eq_true.mp g2 p hp)
    exact ⟨of_decide_eq_true k1, of_decide_eq_true k2⟩
  · obtain ⟨k1, k2⟩ := (Bool.and_eq_true _ _).mp (List.all_eq_true.mp (List.all_eq_true.mp h4 f (List.mem_range.mpr hf)) a (List.mem_range.mpr ha))
    exact ⟨of_decide_eq_true k1, of_decide_eq_true k2⟩
  · have := List.all_eq_true.mp h5 f (List.mem_range.mpr hf)
    exact reach_ok h0 hx _ f (List.contains_iff_mem.mp this)
theorem sq21 : Valid (squareM 2 1) := valid_of (by decide +kernel)
theorem sq22 : Valid (squareM 2 2) := valid_of (by decide +kernel)
theorem sq13 : Valid (squareM 1 3) := valid_of (by decide +kernel)
theorem sq32 : Valid (squareM 3 2) := valid_of (by decide +kernel)
theorem sq62 : Valid (squareM 6 2) := valid_of (by decide +kernel)
theorem sqn1 : ∀ n, 1 ≤ n → n ≤ 6 → Valid (squareM n 1)
  | 1, _, _ => valid_of (by decide +kernel)
  | 2, _, _ => valid_of (by decide +kernel)
  | 3, _, _ => valid_of (by decide +kernel)
  | 4, _, _ => valid_of (by decide +kernel)
  | 5, _, _ => valid_of (by decide +kernel)
  | 6, _, _ => valid_of (by decide +kernel)
  | n + 7, _, h => absurd h (by omega)
theorem square_len (w h : Nat) : (squareM w h).length = w * h := by unfold squareM; rw [List.length_map, List.length_range]
/-! ### labels of FIELDS -/
def Both (S : Skin) (X : Nat → Prop) : Prop := ∀ f a, f < S.length → a < 4 → (X f ↔ X (cr S f a).1)
def LabF (S : Skin) (v : List Nat) : Prop := v.length = S.length ∧ ∀ f, f < S.length → v.getD f 0 < S.length ∧ ∀ X, Both S X → (X (v.getD f 0) ↔ X f)
theorem LabF.start (S : Skin) : LabF S (List.range S.length) := by
  refine ⟨List.length_range, fun f hf => ?_⟩
  have e : (List.range S.length).getD f 0 = f := by rw [List.getD_eq_getElem?_getD, List.getElem?_range hf] <;> rfl
  rw [e]
  exact ⟨hf, fun _ _ => Iff.rfl⟩
theorem LabF.step {S : Skin} {v : List Nat} (h : LabF S v) {f a : Nat} (hf : f < S.length) (ha : a < 4) (hg : (cr S f a).1 < S.length) :
    LabF S ((v.set f (min (v.getD f 0) (v.getD (cr S f a).1 0))).set (cr S f a).1 (min (v.getD f 0) (v.getD (cr S f a).1 0))) := by
  obtain ⟨hl, hv⟩ := h
  have low : min (v.getD f 0) (v.getD (cr S f a).1 0) < S.length ∧ ∀ X, Both S X → (X (min (v.getD f 0) (v.getD (cr S f a).1 0)) ↔ X f) := by
    obtain ⟨a1, a2⟩ := hv f hf
    obtain ⟨b1, b2⟩ := hv _ hg
    rcases Nat.le_total (v.getD f 0) (v.getD (cr S f a).1 0) with hle | hle
    · rw [Nat.min_eq_left hle]
      exact ⟨a1, a2⟩
    · rw [Nat.min_eq_right hle]
      exact ⟨b1, fun X hX => (b2 X hX).trans (hX f a hf ha).symm⟩
  refine ⟨by rw [List.length_set, List.length_set, hl], fun j hj => ?_⟩
  rw [getD_set (by rw [List.length_set, hl]; exact hg), getD_set (by rw [hl]; exact hf)]
  by_cases e1 : j = (cr S f a).1
  · rw [if_pos e1]
    exact ⟨low.1, fun X hX => (low.2 X hX).trans (e1 ▸ hX f a hf ha)⟩
  · rw [if_neg e1]
    by_cases e2 : j = f
    · rw [if_pos e2]
      exact ⟨low.1, fun X hX => e2 ▸ low.2 X hX⟩
    · rw [if_neg e2]
      exact hv j hj
theorem LabF.conn {S : Skin} (sh : Shaped S) (sw : Sewn S) {v : List Nat} (h : LabF S v) (z : ∀ f, f < S.length → v.getD f 0 = 0) : Conn S := fun X h0 hx => by
  have both : Both S X := fun f a hf ha => by
    refine ⟨hx f a hf ha, fun hg => ?_⟩
    have hin := sh.inR hf ha
    have := hx _ _ hin.1 hin.2 hg
    rwa [(sw f a hf ha).2] at this
  intro f hf
  have := (h.2 f hf).2 X both
  rw [z f hf] at this
  exact this.mp h0
end Hp5

set_option maxHeartbeats 4000000
/-! the layer's rules with the written part told: a reading within a comprehension must not lean on the block -/
namespace Hp5
open PySem PySem.Spec PyProof.Rows L2
section
variable {X : Cx} (K : PySem.W.Frag)
theorem ixT (hK : X.K = K := by rfl) : IxR X (rIxT K) := by subst hK; exact ix_tup
theorem ixL (hK : X.K = K := by rfl) : IxR X (rIxL K) := by subst hK; exact ix_list
def rLenS (K : PySem.W.Frag) : List V → Hp → VK → Prop := fun xs H Q => ∃ p ys, xs = [.ref p] ∧ (SqL K H p ys ∨ SqT K H p ys) ∧ Q (.int ys.length) H
theorem cLen (hK : X.K = K := by rfl) : CallR X (.builtin "len") (rLenS K) := by subst hK; exact call_len_seq
theorem cIsi (hK : X.K = K := by rfl) : CallR X (.builtin "isinstance") (rIsi K) := by subst hK; exact call_isi
theorem cIsiT (hK : X.K = K := by rfl) : CallR X (.builtin "isinstance") (rIsiT K) := by subst hK; exact call_isiT
theorem cAll (hc : X.calm = true := by rfl) (hK : X.K = K := by rfl) : CallR X (.builtin "all") (rAll K) := by subst hK; exact cr_all hc
def rTupOf (K : PySem.W.Frag) : List V → Hp → VK → Prop := fun xs H Q => ∃ p ys, xs = [.ref p] ∧ ((SqL K H p ys ∧ ∀ l, H l = none → Q (.ref l) (upd H l (.tup ys))) ∨ (SqT K H p ys ∧ Q (.ref p) H))
theorem cTup (hK : X.K = K := by rfl) : CallR X (.type "tuple") (rTupOf K) := by subst hK; exact call_tuple_of
def rLstOf (K : PySem.W.Frag) : List V → Hp → VK → Prop := fun xs H Q => ∃ p ys, xs = [.ref p] ∧ (SqL K H p ys ∨ SqT K H p ys) ∧ ∀ l, H l = none → Q (.ref l) (upd H l (.lst ys))
theorem cLst (hK : X.K = K := by rfl) : CallR X (.type "list") (rLstOf K) := by subst hK; exact call_list_of
theorem cSet (hc : X.calm = true := by rfl) (hK : X.K = K := by rfl) : CallR X (.type "set") (rSetI K) := by subst hK; exact cr_setI hc
theorem oLtT (hu : X.A.units < cLine) (hK : X.K = K := by rfl) : OpR X (compareOp .Lt) (rLtT K) := by subst hK; exact op_ltT hu
theorem oEqD (hu : X.A.units + 64 < cLine) (hK : X.K = K := by rfl) : OpR X (compareOp .Eq) (rEqD K) := by subst hK; exact op_eqD hu
theorem oNeD (hu : X.A.units + 64 < cLine) (hK : X.K = K := by rfl) : OpR X (compareOp .NotEq) (rNeD K) := by subst hK; exact op_neD hu
theorem oNotInD (hu : X.A.units + 65 < cLine) (hK : X.K = K := by rfl) : OpR X (compareOp .NotIn) (rNotInD K) := by subst hK; exact op_notInD hu
theorem piT {tg l : Expr} {tl : TE} (hl : PE X l tl) (hK : X.K = K := by rfl) : PI X tg l (iTup K tl) := by subst hK; exact pi_tup hl
theorem piL {tg l : Expr} {tl : TE} (hl : PE X l tl) (hK : X.K = K := by rfl) : PI X tg l (iList K tl) := by subst hK; exact pi_list hl
theorem piET {e : Expr} {ta : TA} {p pos tpos : Pos} {elts : List Expr} {kk : Nat} (hm : X.mg "enumerate" = none) (ha : PA X [e] ta) (hg : Gl X "enumerate" := by rfl) (hK : X.K = K := by rfl) (hs : starEach [e] X.env = [(false, eval e X.env)] := by rfl) :
    PI X (.Tuple elts kk tpos) (.Call (.Name "enumerate" p) [e] [] pos) (iEnT K ta) := by subst hK; exact pi_enT hg hm ha hs
theorem piEL {e : Expr} {ta : TA} {p pos tpos : Pos} {elts : List Expr} {kk : Nat} (hm : X.mg "enumerate" = none) (ha : PA X [e] ta) (hg : Gl X "enumerate" := by rfl) (hK : X.K = K := by rfl) (hs : starEach [e] X.env = [(false, eval e X.env)] := by rfl) :
    PI X (.Tuple elts kk tpos) (.Call (.Name "enumerate" p) [e] [] pos) (iEnum K ta) := by subst hK; exact pi_enum hg hm ha hs
theorem piZ {e e2 : Expr} {ta : TA} {p pos tpos : Pos} {elts : List Expr} {kk : Nat} (hm : X.mg "zip" = none) (ha : PA X [e, e2] ta) (hg : Gl X "zip" := by rfl) (hK : X.K = K := by rfl)
    (hs : starEach [e, e2] X.env = (false, eval e X.env) :: starEach [e2] X.env := by rfl) (hpl : (backTo pos (starEach [e2] X.env)).any (·.1) = false := by rfl) :
    PI X (.Tuple elts kk tpos) (.Call (.Name "zip" p) [e, e2] [] pos) (RZ.iZipA K ta) := by subst hK; exact RZ.pi_zipA hg hm ha hs hpl
theorem pgT {es : List Expr} {k : Nat} {t : TGs} {n : Nat} {pos : Pos} (h : PGs X es t) (hc : X.calm = true := by rfl) (hK : X.K = K := by rfl)
    (hn : (assignEach es X.env).length = n := by rfl) (hst : (assignEach es X.env).findIdx? (·.1) = none := by rfl) : PG X (.Tuple es k pos) (gTup K n t) := by subst hK; exact pg_tup hc h hn hst
theorem slL (hK : X.K = K := by rfl) : SlR X (rSlL K) := by subst hK; exact sl_list
end
end Hp5

set_option maxHeartbeats 4000000
namespace Hp5
open PySem PySem.Spec PyProof.Rows L2
/-- the FIELDS come to, as the program's dict -/
def kn (ks : List Nat) : List (Key × V) := ks.map fun f : Nat => ((Sum.inl (f : Int) : Key), V.bl true)
theorem kn_len (ks : List Nat) : (kn ks).length = ks.length := List.length_map _
theorem valV_kn (f : Nat) : ∀ ks : List Nat, (valV (kn ks) (Sum.inl (f : Int))).isSome = decide (f ∈ ks)
  | [] => rfl
  | g :: r => by
    show (valV ((Sum.inl (g : Int), V.bl true) :: kn r) _).isSome = _
    by_cases e : g = f
    · rw [valV_pos (by rw [e]), e, decide_eq_true List.mem_cons_self] <;> rfl
    · rw [valV_neg (fun z => e (Int.ofNat.inj (Sum.inl.inj z))), valV_kn f r]
      have hiff : f ∈ r ↔ f ∈ g :: r := ⟨fun h => List.mem_cons_of_mem _ h, fun h => (List.mem_cons.mp h).resolve_left fun z => e z.symm⟩
      by_cases h : f ∈ r
      · rw [decide_eq_true h, decide_eq_true (hiff.mp h)]
      · rw [decide_eq_false h, decide_eq_false fun z => h (hiff.mpr z)]
theorem putK_kn {f : Nat} {ks : List Nat} (h : f ∉ ks) : putK (kn ks) (Sum.inl (f : Int)) (.bl true) = kn (ks ++ [f]) := by
  have e : valV (kn ks) (Sum.inl (f : Int)) = none := by
    have := valV_kn f ks
    rw [decide_eq_false h] at this
    cases q : valV (kn ks) (Sum.inl (f : Int)) with
    | none => rfl
    | some v => rw [q] at this; cases this
  rw [putK_new _ e]
  unfold kn
  rw [List.map_append] <;> rfl
/-- the search: every FIELD that is done has its neighbours among the known ones; rd: the FIELD in hand, its first j SIDES looked at -/
structure Hg (S : Skin) (ks ls : List Nat) : Prop where
  nd : ks.Nodup
  lt : ∀ f ∈ ks, f < S.length
  zero : 0 ∈ ks
  sub : ∀ f ∈ ls, f ∈ ks
structure HgW (S : Skin) (ks ls : List Nat) : Prop extends Hg S ks ls where
  done : ∀ f ∈ ks, f ∈ ls ∨ ∀ a, a < 4 → (cr S f a).1 ∈ ks
structure HgR (S : Skin) (ks ls : List Nat) (rd j : Nat) : Prop extends Hg S ks ls where
  done : ∀ f ∈ ks, f ∈ ls ∨ f = rd ∨ ∀ a, a < 4 → (cr S f a).1 ∈ ks
  here : ∀ a, a < j → (cr S rd a).1 ∈ ks
  isin : rd ∈ ks
theorem Hg.len {S : Skin} {ks ls : List Nat} (h : Hg S ks ls) : ks.length ≤ S.length := by
  have := nd_sub h.nd (m := List.range S.length) fun f hf => List.mem_range.mpr (h.lt f hf)
  rwa [List.length_range] at this
theorem HgR.add {S : Skin} {ks ls : List Nat} {rd j g : Nat} (h : HgR S ks ls rd j) (hg : (cr S rd j).1 = g) (hlt : g < S.length) (hn : g ∉ ks) : HgR S (ks ++ [g]) (ls ++ [g]) rd (j + 1) where
  nd := by
    rw [List.nodup_append]
    refine ⟨h.nd, List.nodup_cons.mpr ⟨List.not_mem_nil, List.nodup_nil⟩, fun a ha b hb e => ?_⟩
    rw [List.mem_singleton] at hb
    exact hn (hb ▸ e ▸ ha)
  lt := fun f hf => by
    rcases List.mem_append.mp hf with hf | hf
    · exact h.lt f hf
    · rw [List.mem_singleton] at hf
      rw [hf]
      exact hlt
  zero := List.mem_append_left _ h.zero
  sub := fun f hf => by
    rcases List.mem_append.mp hf with hf | hf
    · exact List.mem_append_left _ (h.sub f hf)
    · exact List.mem_append_right _ hf
  done := fun f hf => by
    rcases List.mem_append.mp hf with hf | hf
    · rcases h.done f hf with z | z | z
      · exact .inl (List.mem_append_left _ z)
      · exact .inr (.inl z)
      · exact .inr (.inr fun a ha => List.mem_append_left _ (z a ha))
    · exact .inl (List.mem_append_right _ hf)
  here := fun a ha => by
    by_cases e : a = j
    · rw [e, hg]
      exact List.mem_append_right _ List.mem_cons_self
    · exact List.mem_append_left _ (h.here a (by omega))
  isin := List.mem_append_left _ h.isin
theorem HgR.old {S : Skin} {ks ls : List Nat} {rd j g : Nat} (h : HgR S ks ls rd j) (hg : (cr S rd j).1 = g) (hn : g ∈ ks) : HgR S ks ls rd (j + 1) :=
  ⟨h.toHg, h.done, fun a ha => by
    by_cases e : a = j
    · rw [e, hg]
      exact hn
    · exact h.here a (by omega), h.isin⟩
theorem HgR.out {S : Skin} {ks ls : List Nat} {rd : Nat} (h : HgR S ks ls rd 4) : HgW S ks ls :=
  ⟨h.toHg, fun f hf => by
    rcases h.done f hf with z | z | z
    · exact .inl z
    · exact .inr (z ▸ h.here)
    · exact .inr z⟩
theorem HgW.pop {S : Skin} {ks ls : List Nat} {rd : Nat} (h : HgW S ks (ls ++ [rd])) : HgR S ks ls rd 0 :=
  ⟨⟨h.nd, h.lt, h.zero, fun f hf => h.sub f (List.mem_append_left _ hf)⟩, fun f hf => by
    rcases h.done f hf with z | z
    · rcases List.mem_append.mp z with z | z
      · exact .inl z
      · exact .inr (.inl (List.mem_singleton.mp z))
    · exact .inr (.inr z), fun a ha => absurd ha (Nat.not_lt_zero _), h.sub rd (List.mem_append_right _ List.mem_cons_self)⟩
theorem HgW.full {S : Skin} {ks : List Nat} (h : HgW S ks []) (c : Conn S) : ks.length = S.length := by
  refine Nat.le_antisymm h.len ?_
  have all := c (fun f => f ∈ ks) h.zero fun f a _ ha hf => (h.done f hf).resolve_left List.not_mem_nil a ha
  have := nd_sub (List.nodup_range (n := S.length)) (m := ks) fun f hf => all f (List.mem_range.mp hf)
  rwa [List.length_range] at this
/-- a row of the skin -/
theorem row_at {H : Hp} {v : V} {S : Skin} (h : Is H v (skD S)) : ∃ (a : Addr) (us : List V), v = .ref a ∧ H a = some (.tup us) ∧ us.length = S.length ∧ ∀ (f : Nat) (r : List Pr), S[f]? = some r → ∃ (b : Addr) (rs : List V), us[f]? = some (V.ref b) ∧ H b = some (.tup rs) ∧ rs.length = r.length ∧
    ∀ (a : Nat) (p : Pr), r[a]? = some p → ∃ c : Addr, rs[a]? = some (V.ref c) ∧ H c = some (.tup [.int p.1, .int p.2]) := by
  obtain ⟨a, us, rfl, ha, hl⟩ := h.tupE
  refine ⟨a, us, rfl, ha, ?_, fun f r hr => ?_⟩
  · have := hl.length
    rwa [List.length_map] at this
  · have e : (S.map rowD)[f]? = some (rowD r) := by rw [List.getElem?_map, hr] <;> rfl
    obtain ⟨w, hw, hi⟩ := hl.get e
    obtain ⟨b, rs, rfl, hb, hrs⟩ := hi.tupE
    refine ⟨b, rs, hw, hb, ?_, fun a p hp => ?_⟩
    · have := hrs.length
      rwa [List.length_map] at this
    · have e2 : (r.map prD)[a]? = some (prD p) := by rw [List.getElem?_map, hp] <;> rfl
      obtain ⟨x, hx, hxi⟩ := hrs.get e2
      obtain ⟨c, rfl, hc⟩ := hxi.prE
      exact ⟨c, hx, hc⟩
theorem small50 {n : Nat} (h : n ≤ 100) : n < sizeLine := small1000 (by omega)
section
variable {P : Program} {w : World} {K : PySem.W.Frag} {mg : Str → Option Value} {base : Heap}
def spHang : Sp := fun vs H Q _ => ∃ (v : V) (S : Skin), vs = [v] ∧ Is H v (skD S) ∧ Shaped S ∧ Conn S ∧ ∀ H', Same H H' → Q (.bl true) H'
abbrev nsHang : List Str := ["skin", "known", "left", "far", "_"]
theorem sc_hang : FnScope nsHang ["skin"] (defScope s_hang_together) := ⟨rfl, rfl, rfl, by decide +kernel, rfl, by decide +kernel, by decide +kernel⟩
theorem ok_hang (T : Tx K mg) : OkD P w K mg base 1 "hang_together" ["skin"] spHang := by
  refine T.d_hang_together.ok sc_hang (fun vs H Q E h => ?_) (fun cdv A outer s H vs Q E hr h => ?_)
  · obtain ⟨v, S, rfl, _⟩ := h
    rfl
  · obtain ⟨v, S, rfl, hv, sh, cn, q⟩ := h
    obtain ⟨sa, us, rfl, hsa, hul, hrow⟩ := row_at hv
    have hu := hu_of hr
    refine ⟨_, pss_cons (ps_par (i := 1) (j := 2) rfl sc_hang.nd rfl rfl (by decide) rfl rfl (pa_cons (pe_disp (pps_cons pe_int pe_bl pps_nil) (by rfl) (by rfl) (fun z => by cases z) (by decide)) (pa_cons (pe_lst (pa_cons pe_int pa_nil)) pa_nil)) (by rfl))
      (pss_cons (ps_while PassesOwn.never (pt_cmpR op_gt (pe_callB call_len_seq rfl T.m_len bt_len (pa_cons (pv 2) pa_nil)) pe_int (nomark _))
        (pss_one (ps_for PassesOwn.never rfl (pi_tup (pe_ix ix_tup (pv 0) (pe_bm0 PySem.F.plainAttrs_list PySem.F.slot_list_pop PySem.F.type_list_pop mt_pop (pv 2)) (fun _ _ => rfl)))
          (pg_tup rfl (pgs_cons (pg_name (i := 3) sc_hang.nd rfl (.inl rfl)) (pgs_cons (pg_name (i := 4) sc_hang.nd rfl (.inl rfl)) pgs_nil)))
          (pss_one (ps_if (pt_cmp (pc_dnotin hu (pv 3) (pv 1)))
            (pss_cons (ps_dput hu (pv 1) (pv 3) pe_bl rfl) (pss_one (ps_expr (pe_bm PySem.F.plainAttrs_list PySem.F.slot_list_append PySem.F.type_list_append mt_append (pv 2) (pa_cons (pv 3) pa_nil))))) pss_nil)))))
      (pss_one (ps_ret (pe_cmpR op_eq (pe_callB call_lenD rfl T.m_len bt_len (pa_cons (pv 1) pa_nil)) (pe_callB call_len_seq rfl T.m_len bt_len (pa_cons (pv 0) pa_nil)) (nomark _))))), ?_⟩
    -- known, left
    intro d nd
    refine ⟨upd_same, [(Sum.inl 0, .bl true)], rfl, by decide, ?_⟩
    refine ⟨(by show 1 ≤ sizeLine; decide), fun l nl => ?_⟩
    refine ⟨_, _, rfl, ?_⟩
    have s0 : Same H (upd (upd H d (.dK [])) d (.dK (mergeK [] [(Sum.inl 0, .bl true)]))) := sm_upd2 (sm_upd nd) nd
    have nl0 : H l = none := s0.free nl
    have hdl : d ≠ l := ne_of_none upd_same nl
    -- while
    refine ⟨fun m σ H1 => ∃ ks ls y3 y4, σ = [some (.ref sa), some (.ref d), some (.ref l), y3, y4] ∧ Same H H1 ∧ H1 d = some (.dK (kn ks)) ∧ H1 l = some (.lst (ls.map fun f : Nat => V.int f)) ∧ HgW S ks ls ∧ ls.length ≤ ks.length ∧ m = 2 * (S.length - ks.length) + ls.length,
      ⟨_, [0], [0], none, none, rfl, sm_upd2 s0 nl0, ?_, upd_same, ?_, Nat.le_refl _, rfl⟩, ?_⟩
    · rw [upd_ne hdl, upd_same]
      rfl
    · exact ⟨⟨List.nodup_cons.mpr ⟨List.not_mem_nil, List.nodup_nil⟩, fun f hf => by
        rw [List.mem_singleton] at hf
        rw [hf]
        exact sh.pos, List.mem_cons_self, fun f hf => hf⟩, fun f hf => .inl hf⟩
    rintro m σ H1 ⟨ks, ls, y3, y4, rfl, s1, hd, hl, hw, hll, rfl⟩
    refine ⟨_, rfl, l, _, rfl, .inl (SqL.of hl), _, _, rfl, rfl, _, rfl, ?_⟩
    rw [List.length_map]
    refine ite2 (fun c => ?_) (fun c => ?_)
    · have c' : 0 < (ls.length : Int) := of_decide_eq_true c
      obtain ⟨ls', rd, rfl⟩ : ∃ ls' rd, ls = ls' ++ [rd] := by
        have hne : ls ≠ [] := fun z => by
          rw [z] at c'
          exact absurd c' (by decide)
        exact ⟨ls.dropLast, ls.getLast hne, (List.dropLast_concat_getLast hne).symm⟩
      have hrd : rd < S.length := hw.lt rd (hw.sub rd (List.mem_append_right _ List.mem_cons_self))
      obtain ⟨r, er⟩ := lt_get (l := S) hrd
      obtain ⟨b, rs, eb, hb, hrl, hcell⟩ := hrow rd r er
      have hrlen : r.length = 4 := (sh.row r (List.mem_of_getElem? er)).1
      refine ⟨fun σ' H' => ∃ ks' ls'' y3 y4, σ' = [some (.ref sa), some (.ref d), some (.ref l), y3, y4] ∧ Same H H' ∧ H' d = some (.dK (kn ks')) ∧ H' l = some (.lst (ls''.map fun f : Nat => V.int f)) ∧ HgW S ks' ls'' ∧ ls''.length ≤ ks'.length ∧ 2 * (S.length - ks'.length) + ls''.length < 2 * (S.length - ks.length) + (ls' ++ [rd]).length,
        fun σ' H' hN => ?_, ?_⟩
      · obtain ⟨ks', ls'', z3, z4, e1, e2, e3, e4, e5, e7, e6⟩ := hN
        exact ⟨_, e6, ks', ls'', z3, z4, e1, e2, e3, e4, e5, e7, rfl⟩
      -- skin[left.pop()]
      refine ⟨_, rfl, .ref l, rfl, .inl ⟨rfl, _, SqL.of hl⟩, l, _, .int (rd : Nat), rfl, rfl, hl, ?_, ?_⟩
      · rw [List.length_map, List.length_append, List.map_append]
        show _[ls'.length + 1 - 1]? = _
        rw [Nat.add_sub_cancel, List.getElem?_append_right (by rw [List.length_map]; exact Nat.le_refl _), List.length_map, Nat.sub_self] <;> rfl
      have edl : ((ls' ++ [rd]).map fun f : Nat => V.int f).dropLast = ls'.map fun f : Nat => V.int f := by
        rw [List.map_append] <;> exact List.dropLast_concat
      rw [edl]
      have s2 : Same H (upd H1 l (.lst (ls'.map fun f : Nat => V.int f))) := sm_upd2 s1 nl0
      refine ⟨sa, us, (rd : Nat), .ref b, rfl, rfl, SqT.of (s2 _ _ hsa), atI_nat eb, b, rfl, ⟨rs, SqT.of (s2 _ _ hb)⟩, ?_⟩
      refine for_it (walk_tup (K := K) (a := b) (xs := rs)) (fun j σ' H' => ∃ ks' ls'' y3 y4, σ' = [some (.ref sa), some (.ref d), some (.ref l), y3, y4] ∧ Same H H' ∧ H' d = some (.dK (kn ks')) ∧ H' l = some (.lst (ls''.map fun f : Nat => V.int f)) ∧ HgR S ks' ls'' rd j ∧
          ks.length ≤ ks'.length ∧ ls''.length + ks.length = ls'.length + ks'.length)
        ⟨ks, ls', y3, y4, rfl, s2, by rw [upd_ne hdl]; exact hd, upd_same, hw.pop, Nat.le_refl _, rfl⟩ (fun j σ' H' hj hp => ?_) (fun j x σ' H2 H3 hj hp hy => ?_) (fun σ' H' hp => ?_)
      · obtain ⟨_, _, _, _, _, sm, _⟩ := hp
        exact SqT.of (sm _ _ hb)
      · obtain ⟨rfl, hx⟩ := hy
        obtain ⟨ks', ls'', z3, z4, rfl, s3, hd3, hl3, hR, g1, g2⟩ := hp
        obtain ⟨p, ep⟩ := lt_get (l := r) (i := j) (by omega)
        obtain ⟨c2, ec, hc⟩ := hcell j p ep
        rw [ec] at hx
        cases hx
        have ecr : cr S rd j = p := cr_get er ep
        have hplt : p.1 < S.length := ((sh.row r (List.mem_of_getElem? er)).2 p (List.mem_of_getElem? ep)).1
        refine ⟨c2, _, rfl, SqT.of (s3 _ _ hc), rfl, _, _, rfl, _, _, rfl, rfl, ?_⟩
        refine ⟨_, rfl, _, rfl, d, _, rfl, DGet.k (k := Sum.inl (p.1 : Int)) hd3, _, rfl, ?_⟩
        rw [valV_kn]
        refine ite2 (fun cc => ?_) (fun cc => ?_)
        · have hn : p.1 ∉ ks' := by simpa using cc
          have hkl := hR.len
          refine ⟨_, rfl, _, rfl, d, _, rfl, DPut.k (k := Sum.inl (p.1 : Int)) hd3 (by rw [kn_len]; exact small50 (by have := sh.few; omega)), ?_⟩
          rw [putK_kn hn]
          have hl4 : (upd H3 d (.dK (kn (ks' ++ [p.1])))) l = some (.lst (ls''.map fun f : Nat => V.int f)) := by
            rw [upd_ne hdl.symm]
            exact hl3
          refine ⟨_, rfl, .inl ⟨rfl, _, SqL.of hl4⟩, _, rfl, l, _, _, rfl, rfl, hl4, ?_, ?_⟩
          · rw [List.length_map]
            have hlls : (ls' ++ [rd]).length ≤ ks.length := hll
            rw [List.length_append] at hlls
            have hlls2 : ls'.length + 1 ≤ ks.length := hlls
            have := sh.few
            exact small1000 (by omega)
          · have s4 : Same H (upd (upd H3 d (.dK (kn (ks' ++ [p.1])))) l (.lst (ls''.map (fun f : Nat => V.int f) ++ [.int (p.1 : Nat)]))) := sm_upd2 (sm_upd2 s3 nd) nl0
            refine ⟨ks' ++ [p.1], ls'' ++ [p.1], _, _, rfl, s4, ?_, ?_, hR.add (congrArg Prod.fst ecr) hplt hn, ?_, ?_⟩
            · rw [upd_ne hdl, upd_same]
            · rw [upd_same, List.map_append] <;> rfl
            · rw [List.length_append]
              omega
            · rw [List.length_append, List.length_append]
              show ls''.length + 1 + ks.length = ls'.length + (ks'.length + 1)
              omega
        · have hin : p.1 ∈ ks' := by simpa using cc
          exact ⟨ks', ls'', _, _, rfl, s3, hd3, hl3, hR.old (congrArg Prod.fst ecr) hin, g1, g2⟩
      · obtain ⟨ks', ls'', z3, z4, rfl, s3, hd3, hl3, hR, g1, g2⟩ := hp
        rw [show rs.length = 4 by omega] at hR
        have hlls : (ls' ++ [rd]).length ≤ ks.length := hll
        rw [List.length_append] at hlls
        have hlls2 : ls'.length + 1 ≤ ks.length := hlls
        refine ⟨ks', ls'', _, _, rfl, s3, hd3, hl3, hR.out, by omega, ?_⟩
        rw [List.length_append]
        show _ < _ + (ls'.length + 1)
        have := hR.len
        omega
    · have c' : ¬ 0 < (ls.length : Int) := of_decide_eq_false (Bool.eq_false_iff.mpr c)
      have e : ls = [] := List.length_eq_zero_iff.mp (by omega)
      subst e
      refine ⟨_, rfl, d, _, rfl, hd, _, rfl, sa, us, rfl, .inr (SqT.of (s1 _ _ hsa)), rfl, ?_⟩
      rw [kn_len, hw.full cn, hul, decide_eq_true rfl]
      exact q H1 s1
end
end Hp5

set_option maxHeartbeats 4000000
namespace Hp5
open PySem PySem.Spec PyProof.Rows L2
theorem blk_nest {N : List Str} {env : Env} {sc sc1 scope : Scope} {own : List (Str × Nat)} (he : env.scope = sc) (h : blkC N (relS sc1 sc) scope own = true) : BlkOk N (relabel sc1 env) scope own := by
  subst he
  exact blkOk_by h
/-- a comprehension over one name that makes known values -/
theorem lc_v {J : It} {n : Nat} {G : Hp → Prop} {Y : Nat → Hp → V → Hp → Prop} (wk : Walk J n G Y) {k : Nat} {te : TE} {vs : List Nat} {σ : L2.St} {H1 : Hp} {D : Addr} {Qd : Hp → Prop} (ys : List V) (hn : ys.length = n) (hl : n ≤ 1000) (nD : H1 D = none)
    (hG : ∀ H, Same H1 H → G H) (hw : ∀ x, wipe ((wipe σ vs).set k (some x)) vs = wipe σ vs)
    (hs : ∀ (i : Nat) (x : V) (H H' : Hp) (y : V) (C : V → Hp → Prop), i < n → ys[i]? = some y → Same H1 H → Y i H x H' → (∀ H4, Same H H4 → C y H4) → te ((wipe σ vs).set k (some x)) H' C)
    (hd : ∀ H, Same H1 H → H D = some (.lst ys) → Qd H) :
    ∃ W : Nat → Nat → Hp → Prop, (∃ m, W 0 m (upd H1 D (.lst []))) ∧ ∀ i m H, W i m H →
      (J.stop i H ∧ Qd H) ∨ (J.go i H ∧ ∃ Nx : Hp → Prop, (∀ H', Nx H' → ∃ m', m' < m ∧ W (i + 1) m' H') ∧ ∀ x H', J.yld i H x H' → gName k x (wipe σ vs) H' fun σ2 H2 => wipe σ2 vs = wipe σ vs ∧ tYes σ2 H2 fun b H3 =>
        if b = true then te σ2 H3 fun y H4 => ∃ acc, H4 D = some (.lst acc) ∧ acc.length < sizeLine ∧ Nx (upd H4 D (.lst (acc ++ [y]))) else Nx H3) := by
  refine lc_it wk (fun i H => Same H1 H ∧ H D = some (.lst (ys.take i))) ⟨sm_upd nD, upd_same⟩ (fun i H hi hp => hG H hp.1) (fun i x H H' hi hp hy => ?_) (fun H hp => ?_)
  · obtain ⟨sm, hD⟩ := hp
    obtain ⟨y, ey⟩ := lt_get (l := ys) (i := i) (by omega)
    refine ⟨hw x, tyes (iteT (hs i x H H' y _ hi ey sm hy fun H4 s4 => ⟨_, s4 _ _ hD, ?_, sm_upd2 (sm.trans s4) nD, ?_⟩))⟩
    · rw [List.length_take]
      exact small1000 (by omega)
    · rw [upd_same, take_snoc ey]
  · obtain ⟨sm, hD⟩ := hp
    rw [List.take_of_length_le (by omega)] at hD
    exact hd H sm hD
theorem rep_get {α : Type} {n i : Nat} {a x : α} (h : (List.replicate n a)[i]? = some x) : x = a := by
  have := List.mem_of_getElem? h
  exact (List.mem_replicate.mp this).2
theorem rep_bl (n : Nat) : (List.replicate n true).map V.bl = List.replicate n (V.bl true) := List.map_replicate
theorem all_rep (n : Nat) : (List.replicate n true).all id = true := by
  rw [List.all_eq_true]
  intro x hx
  exact (List.mem_replicate.mp hx).2
/-- pairs of numbers, compared -/
def prP (p : Pr) : PyData := .tuple [.int p.1, .int p.2]
theorem dp_pr {K : PySem.W.Frag} {H : Hp} {a : Addr} {p : Pr} (h : H a = some (.tup [.int p.1, .int p.2])) : Dp K H (.ref a) (prP p) := .tup (SqT.of h) (.cons (.int _) (.cons (.int _) .nil))
theorem pr_shaped (p : Pr) : SeqAt.shaped (prP p) = true := by
  show ((prP p).canLay0 && decide ((prP p).depth ≤ 64)) = true
  have h1 : (prP p).canLay0 = true := by simp [prP, PyData.canLay0, PyData.canLayAll0]
  have h2 : (prP p).depth = 1 := by simp [prP, PyData.depth, PyData.depthAll]
  rw [h1, h2]
  rfl
theorem pr_eqv (p q : Pr) : PyData.eqv (prP p) (prP q) = decide (p = q) := by
  obtain ⟨a, b⟩ := p
  obtain ⟨c, d⟩ := q
  have e : PyData.eqv (prP (a, b)) (prP (c, d)) = (((a : Int) == (c : Int)) && (((b : Int) == (d : Int)) && true)) := by simp only [prP, PyData.eqv, PyData.eqvAll]
  rw [e]
  by_cases h : ((a, b) : Pr) = (c, d)
  · cases h
    simp
  · rw [decide_eq_false h]
    by_cases h1 : a = c
    · have h2 : b ≠ d := fun z => h (by rw [h1, z])
      have q : ((b : Int) == (d : Int)) = false := beq_eq_false_iff_ne.mpr (by omega)
      rw [q, Bool.false_and, Bool.and_false]
    · have q : ((a : Int) == (c : Int)) = false := beq_eq_false_iff_ne.mpr (by omega)
      rw [q, Bool.false_and]
theorem tup2_line : 2 ≤ sizeLine := by decide
section
variable {P : Program} {w : World} {K : PySem.W.Frag} {mg : Str → Option Value} {base : Heap}
/-- a SKIN is one -/
def spSkin : Sp := fun vs H Q _ => ∃ (v : V) (S : Skin), vs = [v] ∧ Is H v (skD S) ∧ Valid S ∧ ∀ H', Same H H' → Q (.bl true) H'
abbrev ns_is_skin : List Str := ["thing", "field", "row", "side", "far", "back", "own"]
theorem sc_is_skin : FnScope ns_is_skin ["thing"] (defScope s_is_skin) := ⟨rfl, rfl, rfl, by decide +kernel, rfl, by decide +kernel, by decide +kernel⟩
theorem ok_is_skin (T : Tx K mg) : OkD P w K mg base 5 "is_skin" ["thing"] spSkin := by
  have G_is_long : OkD P w K mg base 1 "is_long" ["thing", "length"] spLong := ok_is_long T
  have G_is_crossing_of : OkD P w K mg base 4 "is_crossing_of" ["many", "thing"] spCrossing := ok_is_crossing_of T
  have G_hang_together : OkD P w K mg base 1 "hang_together" ["skin"] spHang := ok_hang T
  refine T.d_is_skin.ok sc_is_skin (fun vs H Q E h => ?_) (fun cdv A outer s H vs Q E hr h => ?_)
  · obtain ⟨v, S, rfl, _⟩ := h
    rfl
  · obtain ⟨v, S, rfl, hv, vd, q⟩ := h
    obtain ⟨sa, us, rfl, hsa, hul, hrow⟩ := row_at hv
    have hu64 := hr.units
    have nn := sc_is_skin.nd
    have sh := vd.sh
    have few := sh.few
    refine ⟨_, (pss_cons (ps_if (PW.pt (pw_or (pt_not (pt_val (pe_callB (cIsi K) (by rfl) T.m_isinstance bt_isinstance (pa_cons (pv 0) (pa_cons (pe_bltn (by rfl) T.m_tuple bt_tuple rfl (v := .ty "tuple")) pa_nil))))) (pw_or (pt_cmpR op_eq (pe_callB (cLen K) (by rfl) T.m_len bt_len (pa_cons (pv 0) pa_nil)) pe_int (nomark _)) (pw_or1 (pt_not (pt_val (pe_callB (cAll K) (by rfl) T.m_all bt_all (pa_cons (pe_lc (own := [("row", 2)]) (g := gName 2) (tt := tYes) rfl nn (piT K (pv 0)) (blkOk_by (N := ns_is_skin) (sc := defScope s_is_skin) (by decide +kernel)) (fun _ _ _ _ _ => (pg_name (i := 2) nn rfl (by first | exact .inl rfl | exact .inr rfl))) (fun _ _ _ _ _ => pts_nil) (fun _ _ _ _ _ => (pe_c G_is_long hr (by decide) (pa_cons (pv 2) (pa_cons pe_int pa_nil))))) pa_nil)))))))) pss_never pss_nil)
      (pss_cons (ps_if (pt_not (pt_val (pe_callB (cAll K) (by rfl) T.m_all bt_all (pa_cons (pe_lc (own := [("row", 2)]) (g := gName 2) (tt := tYes) rfl nn (piT K (pv 0)) (blkOk_by (N := ns_is_skin) (sc := defScope s_is_skin) (by decide +kernel)) (fun _ _ _ _ _ => (pg_name (i := 2) nn rfl (by first | exact .inl rfl | exact .inr rfl))) (fun _ _ _ _ _ => pts_nil) (fun _ _ _ _ _ => (pe_callB (cAll K) (by rfl) T.m_all bt_all (pa_cons (pe_lc (own := [("own", 6)]) (g := gName 6) (tt := tYes) rfl nn (piT K (pv 2)) (blk_nest (N := ns_is_skin) (sc := defScope s_is_skin) (by rfl) (by decide +kernel)) (fun _ _ _ _ _ => (pg_name (i := 6) nn rfl (by first | exact .inl rfl | exact .inr rfl))) (fun _ _ _ _ _ => pts_nil) (fun _ _ _ _ _ => (pe_c G_is_crossing_of hr (by decide) (pa_cons (pe_callB (cLen K) (by rfl) T.m_len bt_len (pa_cons (pv 0) pa_nil)) (pa_cons (pv 6) pa_nil))))) pa_nil)))) pa_nil)))) pss_never pss_nil)
      (pss_cons (ps_for PassesOwn.never rfl (piET K T.m_enumerate (pa_cons (pv 0) pa_nil)) (pgT K (pgs_cons (pg_name (i := 1) nn rfl (by first | exact .inl rfl | exact .inr rfl)) (pgs_cons (pg_name (i := 2) nn rfl (by first | exact .inl rfl | exact .inr rfl)) pgs_nil))) (pss_one (ps_for PassesOwn.never rfl (piET K T.m_enumerate (pa_cons (pv 2) pa_nil)) (pgT K (pgs_cons (pg_name (i := 3) nn rfl (by first | exact .inl rfl | exact .inr rfl)) (pgs_cons (pgT K (pgs_cons (pg_name (i := 4) nn rfl (by first | exact .inl rfl | exact .inr rfl)) (pgs_cons (pg_name (i := 5) nn rfl (by first | exact .inl rfl | exact .inr rfl)) pgs_nil))) pgs_nil))) (pss_one (ps_if (PW.pt (pw_or (pt_cmpR (oEqD K hu64) (pe_tup (pa_cons (pv 4) (pa_cons (pv 5) pa_nil))) (pe_tup (pa_cons (pv 1) (pa_cons (pv 3) pa_nil))) (nomark _)) (pw_or1 (pt_cmpR (oNeD K hu64) (pe_ix (ixT K) (pe_ix (ixT K) (pv 0) (pv 4) (fun _ _ => rfl)) (pv 5) (fun _ _ => rfl)) (pe_tup (pa_cons (pv 1) (pa_cons (pv 3) pa_nil))) (nomark _))))) pss_never pss_nil)))))
      (pss_one (ps_ret (pe_c G_hang_together hr (by decide) (pa_cons (pv 0) pa_nil))))))), ?_⟩
    refine ⟨_, rfl, _, _, _, _, true, rfl, .ty _, .base (.tup hsa), kt_tt, true, rfl, iteF ?_⟩
    refine ⟨_, rfl, sa, us, rfl, .inr (SqT.of hsa), rfl, _, rfl, ?_⟩
    rw [decide_eq_false (fun z => by have := V.int.inj z; have := sh.pos; omega)]
    refine iteF ?_
    refine ⟨_, rfl, sa, rfl, ⟨us, SqT.of hsa⟩, fun D nD => ?_⟩
    refine lc_v (walk_tup (K := K) (a := sa) (xs := us)) (List.replicate us.length (.bl true)) List.length_replicate (by omega) nD (fun H1 sm => SqT.of (sm _ _ hsa)) (fun x => rfl) (fun i x H1 H2 y C hi hy sm hY hC => ?_) (fun H1 sm hD => ?_)
    · obtain ⟨rfl, hx⟩ := hY
      rw [rep_get hy] at hC
      obtain ⟨r, er⟩ := lt_get (l := S) (i := i) (by omega)
      obtain ⟨b, rs, eb, hb, hrl, _⟩ := hrow i r er
      rw [eb] at hx
      cases hx
      have h4 := (sh.row r (List.mem_of_getElem? er)).1
      exact ⟨_, rfl, b, rs, 4, rfl, sm _ _ hb, by omega, hC _ (Same.refl _)⟩
    refine ⟨D, List.replicate us.length true, rfl, SqL.of (by rw [rep_bl]; exact hD), ?_⟩
    rw [all_rep]
    refine ⟨true, rfl, iteF ?_⟩
    -- the second test
    have hsa1 := sm _ _ hsa
    refine ⟨_, rfl, sa, rfl, ⟨us, SqT.of hsa1⟩, fun D2 nD2 => ?_⟩
    refine lc_v (walk_tup (K := K) (a := sa) (xs := us)) (List.replicate us.length (.bl true)) List.length_replicate (by omega) nD2 (fun H2 sm2 => SqT.of (sm2 _ _ hsa1)) (fun x => rfl) (fun i x H2 H3 y C hi hy sm2 hY hC => ?_) (fun H2 sm2 hD2 => ?_)
    · obtain ⟨rfl, hx⟩ := hY
      rw [rep_get hy] at hC
      obtain ⟨r, er⟩ := lt_get (l := S) (i := i) (by omega)
      obtain ⟨b, rs, eb, hb, hrl, hcell⟩ := hrow i r er
      rw [eb] at hx
      cases hx
      obtain ⟨h4, hin⟩ := sh.row r (List.mem_of_getElem? er)
      have hb2 := sm2 _ _ (sm _ _ hb)
      refine ⟨_, rfl, b, rfl, ⟨rs, SqT.of hb2⟩, fun D3 nD3 => ?_⟩
      refine lc_v (walk_tup (K := K) (a := b) (xs := rs)) (List.replicate rs.length (.bl true)) List.length_replicate (by omega) nD3 (fun H4 sm4 => SqT.of (sm4 _ _ hb2)) (fun x => rfl) (fun j x H4 H5 y C2 hj hy2 sm4 hY hC2 => ?_) (fun H4 sm4 hD4 => ?_)
      · obtain ⟨rfl, hx⟩ := hY
        rw [rep_get hy2] at hC2
        obtain ⟨p, ep⟩ := lt_get (l := r) (i := j) (by omega)
        obtain ⟨c, ec, hc⟩ := hcell j p ep
        rw [ec] at hx
        cases hx
        obtain ⟨g1, g2⟩ := hin p (List.mem_of_getElem? ep)
        refine ⟨_, rfl, sa, us, rfl, .inr (SqT.of (sm4 _ _ (sm2 _ _ hsa1))), _, rfl, us.length, .ref c, p, rfl, prD_is (sm4 _ _ (sm2 _ _ (sm _ _ hc))), by omega, g2, hC2 _ (Same.refl _)⟩
      · refine ⟨D3, List.replicate rs.length true, rfl, SqL.of (by rw [rep_bl]; exact hD4), ?_⟩
        rw [all_rep]
        exact hC _ sm4
    refine ⟨D2, List.replicate us.length true, rfl, SqL.of (by rw [rep_bl]; exact hD2), ?_⟩
    rw [all_rep]
    refine ⟨true, rfl, iteF ?_⟩
    -- the loops
    have s2 : Same H H2 := sm.trans sm2
    refine ⟨_, rfl, sa, us, rfl, SqT.of (s2 _ _ hsa), ?_⟩
    refine for_it (walk_enT (K := K) (a := sa) (xs := us)) (fun i σ H3 => ∃ y1 y2 y3 y4 y5 y6, σ = [some (.ref sa), y1, y2, y3, y4, y5, y6] ∧ Same H H3) ⟨_, _, _, _, _, _, rfl, s2⟩ (fun i σ H3 hi hp => ?_) (fun i x σ H3 H4 hi hp hY => ?_) (fun σ H3 hp => ?_)
    · obtain ⟨_, _, _, _, _, _, _, s3⟩ := hp
      exact SqT.of (s3 _ _ hsa)
    · obtain ⟨y1, y2, y3, y4, y5, y6, rfl, s3⟩ := hp
      obtain ⟨t, xi, xr, rfl, nt, rfl, e1, e2⟩ := hY
      cases e1
      obtain ⟨r, er⟩ := lt_get (l := S) (i := i) (by omega)
      obtain ⟨b, rs, eb, hb, hrl, hcell⟩ := hrow i r er
      obtain rfl : xr = .ref b := Option.some.inj (e2.symm.trans eb)
      obtain ⟨h4, hin⟩ := sh.row r (List.mem_of_getElem? er)
      have s4 : Same H (upd H3 t (.tup [.int (i : Nat), .ref b])) := s3.trans (sm_upd nt)
      refine ⟨t, [_, _], rfl, SqT.of upd_same, rfl, _, _, rfl, _, _, rfl, rfl, ?_⟩
      refine ⟨_, rfl, b, rs, rfl, SqT.of (s4 _ _ hb), ?_⟩
      refine for_it (walk_enT (K := K) (a := b) (xs := rs)) (fun j σ H5 => ∃ y3 y4 y5 y6, σ = [some (.ref sa), some (.int (i : Nat)), some (.ref b), y3, y4, y5, y6] ∧ Same H H5) ⟨_, _, _, _, rfl, s4⟩ (fun j σ H5 hj hp => ?_) (fun j x σ H5 H6 hj hp hY => ?_) (fun σ H5 hp => ?_)
      · obtain ⟨_, _, _, _, _, s5⟩ := hp
        exact SqT.of (s5 _ _ hb)
      · obtain ⟨z3, z4, z5, z6, rfl, s5⟩ := hp
        obtain ⟨t2, xj, xc, rfl, nt2, rfl, e3, e4⟩ := hY
        cases e3
        obtain ⟨p, ep⟩ := lt_get (l := r) (i := j) (by omega)
        obtain ⟨c, ec, hc⟩ := hcell j p ep
        obtain rfl : xc = .ref c := Option.some.inj (e4.symm.trans ec)
        have s6 : Same H (upd H5 t2 (.tup [.int (j : Nat), .ref c])) := s5.trans (sm_upd nt2)
        have ecr : cr S i j = p := cr_get er ep
        obtain ⟨w1, w2⟩ := vd.sewn i j (by omega) (by omega)
        rw [ecr] at w1 w2
        obtain ⟨g1, g2⟩ := hin p (List.mem_of_getElem? ep)
        obtain ⟨r2, er2, ep2⟩ := sh.at g1 g2
        rw [w2] at ep2
        obtain ⟨b2, rs2, eb2, hb2, _, hcell2⟩ := hrow p.1 r2 er2
        obtain ⟨c2, ec2, hc2⟩ := hcell2 p.2 (i, j) ep2
        refine ⟨t2, [_, _], rfl, SqT.of upd_same, rfl, _, _, rfl, _, _, rfl, c, [_, _], rfl, SqT.of (s6 _ _ hc), rfl, _, _, rfl, _, _, rfl, rfl, rfl, ?_⟩
        refine ⟨_, rfl, _, rfl, tup2_line, fun p1 np1 => ?_⟩
        refine ⟨_, rfl, _, rfl, tup2_line, fun p2 np2 => ?_⟩
        refine ⟨prP p, prP (i, j), dp_pr (sm_upd np2 _ _ upd_same), dp_pr upd_same, pr_shaped _, pr_shaped _, _, rfl, ?_⟩
        rw [pr_eqv, decide_eq_false w1]
        refine iteF ?_
        have s7 := (s6.trans (sm_upd np1 (o := .tup [.int (p.1 : Nat), .int (p.2 : Nat)]))).trans (sm_upd np2 (o := .tup [.int (i : Nat), .int (j : Nat)]))
        refine ⟨_, rfl, _, rfl, sa, us, (p.1 : Nat), .ref b2, rfl, rfl, SqT.of (s7 _ _ hsa), atI_nat eb2, ?_⟩
        refine ⟨_, rfl, b2, rs2, (p.2 : Nat), .ref c2, rfl, rfl, SqT.of (s7 _ _ hb2), atI_nat ec2, ?_⟩
        refine ⟨_, rfl, _, rfl, tup2_line, fun p3 np3 => ?_⟩
        refine ⟨prP (i, j), prP (i, j), dp_pr (sm_upd np3 _ _ (s7 _ _ hc2)), dp_pr upd_same, pr_shaped _, pr_shaped _, _, rfl, ?_⟩
        rw [pr_eqv, decide_eq_true rfl]
        exact iteF ⟨_, _, _, _, rfl, s7.trans (sm_upd np3)⟩
      · obtain ⟨z3, z4, z5, z6, rfl, s5⟩ := hp
        exact ⟨_, _, _, _, _, _, rfl, s5⟩
    · obtain ⟨y1, y2, y3, y4, y5, y6, rfl, s3⟩ := hp
      exact ⟨_, rfl, _, S, rfl, hv.sm s3, sh, vd.conn, fun H' s4 => q H' (s3.trans s4)⟩
end
end Hp5

set_option maxHeartbeats 4000000
namespace Hp5
open PySem PySem.Spec PyProof.Rows L2
/-- what tupled makes a skin of -/
def SkL (d : Dt) (S : Skin) : Prop := tupD d = skD S ∧ Fit 3 d
theorem tupD_pr (p : Pr) : tupD (prD p) = prD p := rfl
theorem tupDs_id {l : List Dt} (h : ∀ d ∈ l, tupD d = d) : tupDs l = l := by
  rw [tupDs_map]
  exact (List.map_congr_left h).trans (List.map_id _)
theorem tupD_row (r : List Pr) : tupD (rowD r) = rowD r := by
  show Dt.tup (tupDs (r.map prD)) = _
  rw [tupDs_id fun d hd => by
    obtain ⟨p, _, rfl⟩ := List.mem_map.mp hd
    rfl] <;> rfl
theorem tupD_sk (S : Skin) : tupD (skD S) = skD S := by
  show Dt.tup (tupDs (S.map rowD)) = _
  rw [tupDs_id fun d hd => by
    obtain ⟨r, _, rfl⟩ := List.mem_map.mp hd
    exact tupD_row r] <;> rfl
theorem fit_pr (n : Nat) (p : Pr) : Fit (n + 1) (prD p) := ⟨(by show 2 ≤ 1000; decide), fun d hd => by
  rcases List.mem_cons.mp hd with rfl | hd
  · cases n <;> trivial
  · rw [List.mem_singleton] at hd
    subst hd
    cases n <;> trivial⟩
theorem fit_row (n : Nat) {r : List Pr} (h : r.length ≤ 1000) : Fit (n + 2) (rowD r) := ⟨by rw [List.length_map]; exact h, fun d hd => by
  obtain ⟨p, _, rfl⟩ := List.mem_map.mp hd
  exact fit_pr n p⟩
theorem fit_sk (n : Nat) {S : Skin} (h : S.length ≤ 1000) (h2 : ∀ r ∈ S, r.length ≤ 1000) : Fit (n + 3) (skD S) := ⟨by rw [List.length_map]; exact h, fun d hd => by
  obtain ⟨r, hr, rfl⟩ := List.mem_map.mp hd
  exact fit_row n (h2 r hr)⟩
theorem SkL.self {S : Skin} (h : Shaped S) : SkL (skD S) S := ⟨tupD_sk S, fit_sk 0 (by have := h.few; omega) fun r hr => by have := (h.row r hr).1; omega⟩
section
variable {P : Program} {w : World} {K : PySem.W.Frag} {mg : Str → Option Value} {base : Heap}
def spSure : Sp := fun vs H Q _ => ∃ (v : V) (d : Dt) (S : Skin), vs = [v] ∧ Is H v d ∧ SkL d S ∧ Valid S ∧ ∀ v' H', Same H H' → Is H' v' (skD S) → Q v' H'
abbrev ns_sure_skin : List Str := ["skin", "own"]
theorem sc_sure_skin : FnScope ns_sure_skin ["skin"] (defScope s_sure_skin) := ⟨rfl, rfl, rfl, by decide +kernel, rfl, by decide +kernel, by decide +kernel⟩
theorem ok_sure_skin (T : Tx K mg) : OkD P w K mg base 6 "sure_skin" ["skin"] spSure := by
  have G_tupled : OkD P w K mg base 4 "tupled" ["value"] (spTup 3) := ok_tupled T 3
  have G_is_skin : OkD P w K mg base 5 "is_skin" ["thing"] spSkin := ok_is_skin T
  refine T.d_sure_skin.ok sc_sure_skin (fun vs H Q E h => ?_) (fun cdv A outer s H vs Q E hr h => ?_)
  · obtain ⟨v, d, S, rfl, _⟩ := h
    rfl
  · obtain ⟨v, d, S, rfl, hv, ⟨hl, hf⟩, vd, q⟩ := h
    have nn := sc_sure_skin.nd
    -- slots: 0 skin, 1 own; calls: is_skin, tupled
    refine ⟨_, (pss_cons (ps_set (i := 1) nn rfl (by first | exact .inl rfl | exact .inr rfl) (pe_c G_tupled hr (by decide) (pa_cons (pv 0) pa_nil)))
      (pss_cons (ps_if (pt_not (pt_val (pe_c G_is_skin hr (by decide) (pa_cons (pv 1) pa_nil)))) pss_never pss_nil)
      (pss_one (ps_ret (pv 1))))), ?_⟩
    refine ⟨_, rfl, v, d, rfl, hv, hf, fun v' H1 s1 h1 => ?_⟩
    rw [hl] at h1
    exact ⟨_, rfl, v', S, rfl, h1, vd, fun H2 s2 => ⟨true, rfl, iteF ⟨_, rfl, q _ _ (s1.trans s2) (h1.sm s2)⟩⟩⟩
def spField : Sp := fun vs H Q _ => ∃ (v : V) (S : Skin) (f : Nat), vs = [v, .int f] ∧ Is H v (skD S) ∧ f < S.length ∧ Q (.int f) H
abbrev ns_sure_field : List Str := ["skin", "field"]
theorem sc_sure_field : FnScope ns_sure_field ["skin", "field"] (defScope s_sure_field) := ⟨rfl, rfl, rfl, by decide +kernel, rfl, by decide +kernel, by decide +kernel⟩
theorem ok_sure_field (T : Tx K mg) : OkD P w K mg base 3 "sure_field" ["skin", "field"] spField := by
  have G_is_number : OkD P w K mg base 1 "is_number" ["thing"] spNum := ok_is_number T
  have G_is_within : OkD P w K mg base 2 "is_within" ["thing", "least", "most"] spWithin := ok_is_within T
  refine T.d_sure_field.ok sc_sure_field (fun vs H Q E h => ?_) (fun cdv A outer s H vs Q E hr h => ?_)
  · obtain ⟨v, S, f, rfl, _⟩ := h
    rfl
  · obtain ⟨v, S, f, rfl, hv, hf, q⟩ := h
    obtain ⟨sa, us, rfl, hsa, hul, hrow⟩ := row_at hv
    have nn := sc_sure_field.nd
    -- slots: 0 skin, 1 field; calls: is_number, is_within
    refine ⟨_, (pss_cons (ps_if (pt_not (pt_val (pe_c G_is_number hr (by decide) (pa_cons (pv 1) pa_nil)))) pss_never pss_nil)
      (pss_cons (ps_if (pt_not (pt_val (pe_c G_is_within hr (by decide) (pa_cons (pv 1) (pa_cons pe_int (pa_cons (pe_op op_sub (pe_callB (cLen K) (by rfl) T.m_len bt_len (pa_cons (pv 0) pa_nil)) pe_int) pa_nil)))))) pss_never pss_nil)
      (pss_one (ps_ret (pv 1))))), ?_⟩
    refine ⟨_, rfl, f, rfl, true, rfl, iteF ?_⟩
    refine ⟨_, rfl, _, rfl, sa, us, rfl, .inr (SqT.of hsa), _, _, rfl, rfl, f, 0, (us.length : Int) - 1, rfl, by omega, by omega, true, rfl, iteF ?_⟩
    exact ⟨_, rfl, q⟩
def spEdge : Sp := fun vs H Q _ => ∃ (v : V) (S : Skin) (e : Nat), vs = [v, .int e] ∧ Is H v (skD S) ∧ e < 2 * S.length ∧ Q (.int e) H
abbrev ns_sure_edge : List Str := ["skin", "edge"]
theorem sc_sure_edge : FnScope ns_sure_edge ["skin", "edge"] (defScope s_sure_edge) := ⟨rfl, rfl, rfl, by decide +kernel, rfl, by decide +kernel, by decide +kernel⟩
theorem ok_sure_edge (T : Tx K mg) : OkD P w K mg base 3 "sure_edge" ["skin", "edge"] spEdge := by
  have G_is_number : OkD P w K mg base 1 "is_number" ["thing"] spNum := ok_is_number T
  have G_is_within : OkD P w K mg base 2 "is_within" ["thing", "least", "most"] spWithin := ok_is_within T
  refine T.d_sure_edge.ok sc_sure_edge (fun vs H Q E h => ?_) (fun cdv A outer s H vs Q E hr h => ?_)
  · obtain ⟨v, S, f, rfl, _⟩ := h
    rfl
  · obtain ⟨v, S, f, rfl, hv, hf, q⟩ := h
    obtain ⟨sa, us, rfl, hsa, hul, hrow⟩ := row_at hv
    have nn := sc_sure_edge.nd
    -- slots: 0 skin, 1 edge; calls: is_number, is_within
    refine ⟨_, (pss_cons (ps_if (pt_not (pt_val (pe_c G_is_number hr (by decide) (pa_cons (pv 1) pa_nil)))) pss_never pss_nil)
      (pss_cons (ps_if (pt_not (pt_val (pe_c G_is_within hr (by decide) (pa_cons (pv 1) (pa_cons pe_int (pa_cons (pe_op op_sub (pe_op op_mul pe_int (pe_callB (cLen K) (by rfl) T.m_len bt_len (pa_cons (pv 0) pa_nil))) pe_int) pa_nil)))))) pss_never pss_nil)
      (pss_one (ps_ret (pv 1))))), ?_⟩
    refine ⟨_, rfl, f, rfl, true, rfl, iteF ?_⟩
    refine ⟨_, rfl, _, rfl, sa, us, rfl, .inr (SqT.of hsa), _, _, rfl, rfl, .inl ⟨by decide, by decide⟩, _, _, rfl, rfl, f, 0, 2 * (us.length : Int) - 1, rfl, by omega, by omega, true, rfl, iteF ?_⟩
    exact ⟨_, rfl, q⟩
/-! ### EDGES -/
theorem rowE_fs (S : Skin) (i : Nat) : ((List.range 4).map fun j => if ltP (i, j) (cr S i j) = true then some (prD (i, j)) else none).filterMap id = (rowE S i).map prD := by
  unfold rowE
  rw [List.filterMap_map, List.map_filterMap]
  refine congrArg (fun f => (List.range 4).filterMap f) (funext fun j => ?_)
  show (if ltP (i, j) (cr S i j) = true then some (prD (i, j)) else none) = Option.map prD (if ltP (i, j) (cr S i j) = true then some (i, j) else none)
  split <;> rfl
def spEdges : Sp := fun vs H Q _ => ∃ (v : V) (S : Skin), vs = [v] ∧ Is H v (skD S) ∧ Shaped S ∧ ∀ a ws H', Same H H' → H' a = some (.lst ws) → IsAll H' ws ((edgesM S).map prD) → Q (.ref a) H'
theorem tu_prs (l : List Pr) : TuAll (l.map prD) := tuAll_iff.mpr fun d hd => by
  obtain ⟨p, _, rfl⟩ := List.mem_map.mp hd
  exact tu_pr p
abbrev ns_edges_in : List Str := ["skin", "found", "field", "row", "side", "far"]
theorem sc_edges_in : FnScope ns_edges_in ["skin"] (defScope s_edges_in) := ⟨rfl, rfl, rfl, by decide +kernel, rfl, by decide +kernel, by decide +kernel⟩
theorem ok_edges_in (T : Tx K mg) : OkD P w K mg base 1 "edges_in" ["skin"] spEdges := by
  refine T.d_edges_in.ok sc_edges_in (fun vs H Q E h => ?_) (fun cdv A outer s H vs Q E hr h => ?_)
  · obtain ⟨v, S, rfl, _⟩ := h
    rfl
  · obtain ⟨v, S, rfl, hv, sh, q⟩ := h
    obtain ⟨sa, us, rfl, hsa, hul, hrow⟩ := row_at hv
    have nn := sc_edges_in.nd
    have few := sh.few
    -- slots: 0 skin, 1 found, 2 field, 3 row, 4 side, 5 far; calls:
    refine ⟨_, (pss_cons (ps_set (i := 1) nn rfl (by first | exact .inl rfl | exact .inr rfl) (pe_lst pa_nil))
      (pss_cons (ps_for PassesOwn.never rfl (piET K T.m_enumerate (pa_cons (pv 0) pa_nil)) (pgT K (n := 2) (pgs_cons (pg_name (i := 2) nn rfl (by first | exact .inl rfl | exact .inr rfl)) (pgs_cons (pg_name (i := 3) nn rfl (by first | exact .inl rfl | exact .inr rfl)) pgs_nil))) (pss_one (ps_expr (pe_bm PySem.F.plainAttrs_list PySem.F.slot_list_extend PySem.F.type_list_extend mt_extend (pv 1) (pa_cons (pe_lc (own := [("side", 4), ("far", 5)]) rfl nn (piET K T.m_enumerate (pa_cons (pv 3) pa_nil)) (blkOk_by (N := ns_edges_in) (sc := defScope s_edges_in) (by decide +kernel)) (fun _ _ _ _ _ => (pgT K (n := 2) (pgs_cons (pg_name (i := 4) nn rfl (by first | exact .inl rfl | exact .inr rfl)) (pgs_cons (pg_name (i := 5) nn rfl (by first | exact .inl rfl | exact .inr rfl)) pgs_nil)))) (fun _ _ _ _ _ => (pts_one (pt_cmpR (oLtT K hr.units0) (pe_tup (pa_cons (pv 2) (pa_cons (pv 4) pa_nil))) (pv 5) (nomark _)))) (fun _ _ _ _ _ => (pe_tup (pa_cons (pv 2) (pa_cons (pv 4) pa_nil))))) pa_nil)))))
      (pss_one (ps_ret (pv 1))))), ?_⟩
    refine ⟨Nat.zero_le _, fun a na => ?_⟩
    have s0 : Same H (upd H a (.lst [])) := sm_upd na
    refine ⟨_, rfl, sa, us, rfl, SqT.of (s0 _ _ hsa), ?_⟩
    refine for_it (walk_enT (K := K) (a := sa) (xs := us)) (fun i σ H1 => ∃ y2 y3 y4 y5 ws, σ = [some (.ref sa), some (.ref a), y2, y3, y4, y5] ∧ Same H H1 ∧ H1 a = some (.lst ws) ∧ IsAll H1 ws ((edgesTo S i).map prD)) ⟨_, _, _, _, _, rfl, s0, upd_same, .nil⟩
      (fun i σ H1 hi hp => ?_) (fun i x σ H1 H2 hi hp hY => ?_) (fun σ H1 hp => ?_)
    · obtain ⟨_, _, _, _, _, _, s1, _⟩ := hp
      exact SqT.of (s1 _ _ hsa)
    · obtain ⟨y2, y3, y4, y5, ws, rfl, s1, h1, hws⟩ := hp
      obtain ⟨t, xi, xr, rfl, nt, rfl, e1, e2⟩ := hY
      cases e1
      obtain ⟨r, er⟩ := lt_get (l := S) (i := i) (by omega)
      obtain ⟨b, rs, eb, hb, hrl, hcell⟩ := hrow i r er
      obtain rfl : xr = .ref b := Option.some.inj (e2.symm.trans eb)
      obtain ⟨h4, hin⟩ := sh.row r (List.mem_of_getElem? er)
      have s2 : Same H (upd H1 t (.tup [.int (i : Nat), .ref b])) := s1.trans (sm_upd nt)
      have h2 : (upd H1 t (.tup [.int (i : Nat), .ref b])) a = some (.lst ws) := sm_upd nt _ _ h1
      refine ⟨t, [_, _], rfl, SqT.of upd_same, rfl, _, _, rfl, _, _, rfl, rfl, ?_⟩
      refine ⟨_, rfl, .inl ⟨rfl, _, SqL.of h2⟩, ?_⟩
      refine ⟨_, rfl, b, rs, rfl, SqT.of (s2 _ _ hb), fun D nD => ?_⟩
      refine lc_if (walk_enT (K := K) (a := b) (xs := rs)) ((List.range 4).map fun j => if ltP (i, j) (cr S i j) = true then some (prD (i, j)) else none) (by rw [List.length_map, List.length_range]; omega) (by omega) nD
        (fun H3 s3 => SqT.of (s3 _ _ (s2 _ _ hb))) (fun d hd => ?_) (fun j x H3 H4 o C Z hj ho s3 hY hC hZ => ?_) (fun H3 zs s3 hD hzs => ?_)
      · obtain ⟨j, _, e⟩ := List.mem_map.mp hd
        split at e
        · cases e
          exact tu_pr _
        · cases e
      · obtain ⟨t2, xj, xc, rfl, nt2, rfl, e3, e4⟩ := hY
        cases e3
        obtain ⟨p, ep⟩ := lt_get (l := r) (i := j) (by omega)
        obtain ⟨c, ec, hc⟩ := hcell j p ep
        obtain rfl : xc = .ref c := Option.some.inj (e4.symm.trans ec)
        have ecr : cr S i j = p := cr_get er ep
        have hj4 : j < 4 := by omega
        have eo : o = if ltP (i, j) p = true then some (prD (i, j)) else none := by
          rw [List.getElem?_map, List.getElem?_range hj4] at ho
          rw [← ecr]
          exact (Option.some.inj ho).symm
        have s4 : Same H (upd H3 t2 (.tup [.int (j : Nat), .ref c])) := (s2.trans s3).trans (sm_upd nt2)
        refine ⟨t2, [_, _], rfl, SqT.of upd_same, rfl, _, _, rfl, _, _, rfl, rfl, rfl, ?_⟩
        refine ⟨_, rfl, _, rfl, tup2_line, fun p1 np1 => ?_⟩
        have s5 := s4.trans (sm_upd np1 (o := .tup [.int (i : Nat), .int (j : Nat)]))
        refine ⟨_, rfl, p1, c, [(i : Int), (j : Int)], [(p.1 : Int), (p.2 : Int)], rfl, rfl, SqT.of upd_same, SqT.of (s5 _ _ hc), _, rfl, ?_⟩
        rw [lexLt_pr (i, j) p]
        refine ite2 (fun c1 => ?_) (fun c1 => ?_)
        · rw [if_pos c1] at eo
          refine ⟨_, rfl, _, rfl, tup2_line, fun p2 np2 => ?_⟩
          exact hC _ eo _ _ (((sm_upd nt2).trans (sm_upd np1)).trans (sm_upd np2)) (prD_is upd_same)
        · rw [if_neg c1] at eo
          exact hZ eo _ ((sm_upd nt2).trans (sm_upd np1))
      · rw [rowE_fs] at hzs
        have h3 := s3 _ _ h2
        have l1 := hws.length
        have l2 := hzs.length
        rw [List.length_map] at l1 l2
        have l3 := edgesTo_len S i
        have l4 := rowE_len S i
        have tp : Tps H3 (upd H3 a (.lst (ws ++ zs))) := Tps.upd h3
        refine ⟨a, D, ws, zs, rfl, rfl, h3, hD, Nat.le_of_lt (small1000 (by omega)), _, _, _, _, ws ++ zs, rfl, sm_upd2 (s2.trans s3) na, upd_same, ?_⟩
        rw [edgesTo_succ, List.map_append]
        exact (IsAll.tp tp _ _ (tu_prs _) ((hws.sm (sm_upd nt)).sm s3)).append (IsAll.tp tp _ _ (tu_prs _) hzs)
    · obtain ⟨y2, y3, y4, y5, ws, rfl, s1, h1, hws⟩ := hp
      rw [hul] at hws
      exact ⟨_, rfl, q a ws H1 s1 h1 hws⟩
/-! ### the numbers of the EDGES -/
def spNames : Sp := fun vs H Q _ => ∃ (v : V) (S : Skin), vs = [v] ∧ Is H v (skD S) ∧ Shaped S ∧ ∀ a H', Same H H' → H' a = some (.dT (kd (namesM S))) → Q (.ref a) H'
abbrev ns_numbers_in : List Str := ["skin", "found", "number", "field", "side"]
theorem sc_numbers_in : FnScope ns_numbers_in ["skin"] (defScope s_numbers_in) := ⟨rfl, rfl, rfl, by decide +kernel, rfl, by decide +kernel, by decide +kernel⟩
theorem ok_numbers_in (T : Tx K mg) : OkD P w K mg base 2 "numbers_in" ["skin"] spNames := by
  have G_edges_in : OkD P w K mg base 1 "edges_in" ["skin"] spEdges := ok_edges_in T
  refine T.d_numbers_in.ok sc_numbers_in (fun vs H Q E h => ?_) (fun cdv A outer s H vs Q E hr h => ?_)
  · obtain ⟨v, S, rfl, _⟩ := h
    rfl
  · obtain ⟨v, S, rfl, hv, sh, q⟩ := h
    have hv0 := hv
    obtain ⟨sa, us, rfl, hsa, hul, hrow⟩ := row_at hv
    have nn := sc_numbers_in.nd
    have hu := hu_of hr
    have few := sh.few
    -- slots: 0 skin, 1 found, 2 number, 3 field, 4 side; calls: edges_in
    refine ⟨_, (pss_cons (ps_set (i := 1) nn rfl (by first | exact .inl rfl | exact .inr rfl) pe_dnewT)
      (pss_cons (ps_for PassesOwn.never rfl (piEL K T.m_enumerate (pa_cons (pe_c G_edges_in hr (by decide) (pa_cons (pv 0) pa_nil)) pa_nil)) (pgT K (n := 2) (pgs_cons (pg_name (i := 2) nn rfl (by first | exact .inl rfl | exact .inr rfl)) (pgs_cons (pgT K (n := 2) (pgs_cons (pg_name (i := 3) nn rfl (by first | exact .inl rfl | exact .inr rfl)) (pgs_cons (pg_name (i := 4) nn rfl (by first | exact .inl rfl | exact .inr rfl)) pgs_nil))) pgs_nil))) (pss_cons (ps_dput hu (pv 1) (pe_tup (pa_cons (pv 3) (pa_cons (pv 4) pa_nil))) (pv 2) rfl)
      (pss_one (ps_dput hu (pv 1) (pe_ix (ixT K) (pe_ix (ixT K) (pv 0) (pv 3) (fun _ _ => rfl)) (pv 4) (fun _ _ => rfl)) (pv 2) rfl))))
      (pss_one (ps_ret (pv 1))))), ?_⟩
    intro d nd
    have s0 : Same H (upd H d (.dT [])) := sm_upd nd
    refine ⟨_, rfl, _, S, rfl, hv0.sm s0, sh, fun l ws H1 s1 hl hws => ?_⟩
    have hd1 := s1 _ _ upd_same
    have sH1 := s0.trans s1
    refine ⟨l, ws, rfl, SqL.of hl, ?_⟩
    have hwl := hws.length
    rw [List.length_map] at hwl
    have hel : (edgesM S).length ≤ 48 := by
      have := edgesTo_len S S.length
      unfold edgesM
      omega
    refine for_it (walk_enum (K := K) (a := l) (xs := ws)) (fun i σ H2 => ∃ y2 y3 y4, σ = [some (.ref sa), some (.ref d), y2, y3, y4] ∧ Same H H2 ∧ Tps H1 H2 ∧ H2 l = some (.lst ws) ∧ H2 d = some (.dT (kd (namesTo S i))))
      ⟨_, _, _, rfl, sH1, Tps.of (Same.refl _), hl, hd1⟩ (fun i σ H2 hi hp => ?_) (fun i x σ H2 H3 hi hp hY => ?_) (fun σ H2 hp => ?_)
    · obtain ⟨_, _, _, _, _, _, hl2, _⟩ := hp
      exact SqL.of hl2
    · obtain ⟨y2, y3, y4, rfl, s2, tp, hl2, hd2⟩ := hp
      obtain ⟨t, xi, xe, rfl, nt, rfl, e1, e2⟩ := hY
      cases e1
      obtain ⟨e, he⟩ := lt_get (l := edgesM S) (i := i) (by omega)
      obtain ⟨xe', hxe, hie⟩ := hws.get (i := i) (d := prD e) (by rw [List.getElem?_map, he] <;> rfl)
      obtain rfl : xe = xe' := Option.some.inj (e2.symm.trans hxe)
      obtain ⟨c, rfl, hc⟩ := hie.prE
      have eg : (edgesM S).getD i (0, 0) = e := by rw [List.getD_eq_getElem?_getD, he] <;> rfl
      have heR := (mem_edges.mp (List.mem_of_getElem? he)).1
      have hc2 := tp _ _ hc
      have s3 := s2.trans (sm_upd nt (o := .tup [.int (i : Nat), .ref c]))
      have hd3 := sm_upd nt (o := .tup [.int (i : Nat), .ref c]) _ _ hd2
      have hlen := namesTo_len S i
      refine ⟨t, [_, _], rfl, SqT.of upd_same, rfl, _, _, rfl, _, _, rfl, c, [_, _], rfl, SqT.of (sm_upd nt _ _ hc2), rfl, _, _, rfl, _, _, rfl, rfl, rfl, ?_⟩
      refine ⟨_, rfl, _, rfl, _, rfl, _, rfl, tup2_line, fun p1 np1 => ?_⟩
      have hd4 := sm_upd np1 (o := .tup [.int (e.1 : Nat), .int (e.2 : Nat)]) _ _ hd3
      refine ⟨d, _, rfl, DPut.t (k := pk e) hd4 upd_same (by rw [kd_len]; exact small1000 (by omega)), ?_⟩
      rw [putK_kd]
      have tp4 : Tps (upd (upd H2 t (.tup [.int (i : Nat), .ref c])) p1 (.tup [.int (e.1 : Nat), .int (e.2 : Nat)])) (upd (upd (upd H2 t (.tup [.int (i : Nat), .ref c])) p1 (.tup [.int (e.1 : Nat), .int (e.2 : Nat)])) d (.dT (kd (putK (namesTo S i) e (.int (i : Nat)))))) := Tps.updT hd4
      have s4 := s3.trans (sm_upd np1 (o := .tup [.int (e.1 : Nat), .int (e.2 : Nat)]))
      have s5 : Same H (upd (upd (upd H2 t (.tup [.int (i : Nat), .ref c])) p1 (.tup [.int (e.1 : Nat), .int (e.2 : Nat)])) d (.dT (kd (putK (namesTo S i) e (.int (i : Nat)))))) := sm_upd2 s4 nd
      obtain ⟨r, er, er2⟩ := sh.at heR.1 heR.2
      obtain ⟨b, rs, eb, hb, _, hcell⟩ := hrow e.1 r er
      obtain ⟨c2, ec2, hcc⟩ := hcell e.2 _ er2
      refine ⟨_, rfl, _, rfl, _, rfl, _, rfl, sa, us, (e.1 : Nat), .ref b, rfl, rfl, SqT.of (s5 _ _ hsa), atI_nat eb, ?_⟩
      refine ⟨_, rfl, b, rs, (e.2 : Nat), .ref c2, rfl, rfl, SqT.of (s5 _ _ hb), atI_nat ec2, ?_⟩
      have hlen2 := putK_len (namesTo S i) e (.int (i : Nat))
      refine ⟨d, _, rfl, DPut.t (k := pk (cr S e.1 e.2)) upd_same (s5 _ _ hcc) (by rw [kd_len]; exact small1000 (by omega)), ?_⟩
      rw [putK_kd]
      have s6 := sm_upd2 s5 nd (o := .dT (kd (putK (putK (namesTo S i) e (.int (i : Nat))) (cr S e.1 e.2) (.int (i : Nat)))))
      have ld : l ≠ d := ne_of hl2 hd2 (by intro z; cases z)
      have tp6 := ((tp.trans (Tps.of (sm_upd nt (o := .tup [.int (i : Nat), .ref c])))).trans (Tps.of (sm_upd np1 (o := .tup [.int (e.1 : Nat), .int (e.2 : Nat)])))).trans tp4
      refine ⟨_, _, _, rfl, s6, tp6.trans (Tps.updT upd_same), ?_, ?_⟩
      · rw [upd_ne ld, upd_ne ld]
        exact sm_upd np1 _ _ (sm_upd nt _ _ hl2)
      · rw [upd_same]
        show _ = some (HO.dT (kd (putK (putK (namesTo S i) ((edgesM S).getD i (0, 0)) _) (cr S ((edgesM S).getD i (0, 0)).1 ((edgesM S).getD i (0, 0)).2) _)))
        rw [eg]
    · obtain ⟨y2, y3, y4, rfl, s2, tp, hl2, hd2⟩ := hp
      rw [hwl] at hd2
      exact ⟨_, rfl, q d H2 s2 hd2⟩
end
end Hp5

set_option maxHeartbeats 4000000
namespace Hp5
open PySem PySem.Spec PyProof.Rows L2
/-- a dict of known pairs -/
def kdb (l : List Pr) : List (List Key × V) := kd (l.map fun p => (p, V.bl true))
theorem kdb_len (l : List Pr) : (kdb l).length = l.length := by unfold kdb; rw [kd_len, List.length_map]
theorem valV_kdb (p : Pr) : ∀ l : List Pr, (valV (kdb l) (pk p)).isSome = decide (p ∈ l)
  | [] => rfl
  | q :: r => by
    have ih := valV_kdb p r
    unfold kdb at ih ⊢
    rw [valV_kd] at ih ⊢
    rw [List.map_cons]
    by_cases e : q = p
    · rw [valV_pos (p := (q, V.bl true)) e, decide_eq_true (by rw [e]; exact List.mem_cons_self)] <;> rfl
    · rw [valV_neg (p := (q, V.bl true)) e, ih]
      have hiff : p ∈ r ↔ p ∈ q :: r := ⟨fun h => List.mem_cons_of_mem _ h, fun h => (List.mem_cons.mp h).resolve_left fun z => e z.symm⟩
      by_cases h : p ∈ r
      · rw [decide_eq_true h, decide_eq_true (hiff.mp h)]
      · rw [decide_eq_false h, decide_eq_false fun z => h (hiff.mpr z)]
theorem putK_kdb {p : Pr} {l : List Pr} (h : p ∉ l) : putK (kdb l) (pk p) (.bl true) = kdb (l ++ [p]) := by
  have e : valV (kdb l) (pk p) = none := by
    have := valV_kdb p l
    rw [decide_eq_false h] at this
    cases q : valV (kdb l) (pk p) with
    | none => rfl
    | some v => rw [q] at this; cases this
  rw [putK_new _ e]
  unfold kdb kd
  rw [List.map_append, List.map_append] <;> rfl
theorem csSt_len (S : Skin) : ∀ k, (csSt S k).2.length ≤ k
  | 0 => Nat.le_refl _
  | k + 1 => by
    have := csSt_len S k
    show (if 0 < (wk S (4 * S.length + 1) (csSt S k).1 (prAt k) []).2.length then (csSt S k).2 ++ [(wk S (4 * S.length + 1) (csSt S k).1 (prAt k) []).2] else (csSt S k).2).length ≤ k + 1
    split
    · rw [List.length_append]
      show _ + 1 ≤ _
      omega
    · omega
theorem tu_rows (R : List (List Pr)) : TuAll (R.map rowD) := tuAll_iff.mpr fun d hd => by
  obtain ⟨r, _, rfl⟩ := List.mem_map.mp hd
  exact tu_row r
theorem walk_rng {n : Nat} : Walk (Itr 0 n) n (fun _ => True) (fun i H x H' => H' = H ∧ x = .int (i : Nat)) :=
  (walk_range (lo := 0) (n := n)).mono (fun _ _ => trivial) fun i H x H' _ _ y => ⟨y.1, y.2.trans (congrArg V.int (Int.zero_add _))⟩
theorem mod4 (b : Nat) : ((b : Int) - 1) % 4 = (((b + 3) % 4 : Nat) : Int) := by omega
section
variable {P : Program} {w : World} {K : PySem.W.Frag} {mg : Str → Option Value} {base : Heap}
def spCorn : Sp := fun vs H Q _ => ∃ (v : V) (S : Skin), vs = [v] ∧ Is H v (skD S) ∧ Shaped S ∧ ∀ v' H', Same H H' → Is H' v' (skD (cornersM S)) → Q v' H'
/-- the state behind k pairs, in the heap -/
def CI (S : Skin) (H : Hp) (fo kn : Addr) (k : Nat) (H1 : Hp) : Prop := ∃ ws, Same H H1 ∧ H1 fo = some (.lst ws) ∧ IsAll H1 ws ((csSt S k).2.map rowD) ∧ H1 kn = some (.dT (kdb (csSt S k).1))
abbrev ns_corners_in : List Str := ["skin", "found", "known", "field", "side", "pair", "row"]
theorem sc_corners_in : FnScope ns_corners_in ["skin"] (defScope s_corners_in) := ⟨rfl, rfl, rfl, by decide +kernel, rfl, by decide +kernel, by decide +kernel⟩
theorem ok_corners_in (T : Tx K mg) : OkD P w K mg base 1 "corners_in" ["skin"] spCorn := by
  refine T.d_corners_in.ok sc_corners_in (fun vs H Q E h => ?_) (fun cdv A outer s H vs Q E hr h => ?_)
  · obtain ⟨v, S, rfl, _⟩ := h
    rfl
  · obtain ⟨v, S, rfl, hv, sh, q⟩ := h
    obtain ⟨sa, us, rfl, hsa, hul, hrow⟩ := row_at hv
    have nn := sc_corners_in.nd
    have hu := hu_of hr
    have few := sh.few
    -- slots: 0 skin, 1 found, 2 known, 3 field, 4 side, 5 pair, 6 row; calls:
    refine ⟨_, (pss_cons (ps_par (i := 1) (j := 2) rfl nn rfl rfl (by decide) rfl rfl (pa_cons (pe_lst pa_nil) (pa_cons pe_dnewT pa_nil)) (by rfl))
      (pss_cons (ps_for PassesOwn.never rfl (pi_range1 (by rfl) T.m_range (pa_cons (pe_callB (cLen K) (by rfl) T.m_len bt_len (pa_cons (pv 0) pa_nil)) pa_nil)) (pg_name (i := 3) nn rfl (by first | exact .inl rfl | exact .inr rfl)) (pss_one (ps_for PassesOwn.never rfl (pi_range1 (by rfl) T.m_range (pa_cons pe_int pa_nil)) (pg_name (i := 4) nn rfl (by first | exact .inl rfl | exact .inr rfl)) (pss_cons (ps_par (i := 5) (j := 6) rfl nn rfl rfl (by decide) rfl rfl (pa_cons (pe_tup (pa_cons (pv 3) (pa_cons (pv 4) pa_nil))) (pa_cons (pe_lst pa_nil) pa_nil)) (by rfl))
      (pss_cons (ps_while PassesOwn.never (pt_cmp (pc_dnotin hu (pv 5) (pv 2))) (pss_cons (ps_dput hu (pv 2) (pv 5) pe_bl rfl)
      (pss_cons (ps_expr (pe_bm PySem.F.plainAttrs_list PySem.F.slot_list_append PySem.F.type_list_append mt_append (pv 6) (pa_cons (pv 5) pa_nil)))
      (pss_one (ps_set (i := 5) nn rfl (by first | exact .inl rfl | exact .inr rfl) (pe_ix (ixT K) (pe_ix (ixT K) (pv 0) (pe_ix (ixT K) (pv 5) pe_int (fun _ _ => rfl)) (fun _ _ => rfl)) (pe_op op_mod (pe_op op_sub (pe_ix (ixT K) (pv 5) pe_int (fun _ _ => rfl)) pe_int) pe_int) (fun _ _ => rfl)))))))
      (pss_one (ps_if (pt_cmpR op_gt (pe_callB (cLen K) (by rfl) T.m_len bt_len (pa_cons (pv 6) pa_nil)) pe_int (nomark _)) (pss_one (ps_expr (pe_bm PySem.F.plainAttrs_list PySem.F.slot_list_append PySem.F.type_list_append mt_append (pv 1) (pa_cons (pe_callTy (cTup K) (by rfl) T.m_tuple bt_tuple (pa_cons (pv 6) pa_nil)) pa_nil)))) pss_nil)))))))
      (pss_one (ps_ret (pe_callTy (cTup K) (by rfl) T.m_tuple bt_tuple (pa_cons (pv 1) pa_nil)))))), ?_⟩
    refine ⟨Nat.zero_le _, fun fo nfo => ?_⟩
    intro kn nkn
    refine ⟨_, _, rfl, ?_⟩
    have nkn0 : H kn = none := (sm_upd nfo).free nkn
    have hfk : fo ≠ kn := ne_of_none upd_same nkn
    refine ⟨_, rfl, sa, us, rfl, .inr (SqT.of (sm_upd2 (sm_upd nfo) nkn0 _ _ hsa)), (us.length : Int), rfl, by omega, by omega, ?_⟩
    rw [Int.toNat_natCast]
    refine for_it (walk_rng (n := us.length)) (fun i σ H1 => ∃ y3 y4 y5 y6, σ = [some (.ref sa), some (.ref fo), some (.ref kn), y3, y4, y5, y6] ∧ CI S H fo kn (4 * i) H1)
      ⟨_, _, _, _, rfl, [], sm_upd2 (sm_upd nfo) nkn0, by rw [upd_ne hfk]; exact upd_same, .nil, upd_same⟩ (fun _ _ _ _ _ => trivial) (fun i x σ H1 H2 hi hp hY => ?_) (fun σ H1 hp => ?_)
    · obtain ⟨y3, y4, y5, y6, rfl, hci⟩ := hp
      obtain ⟨rfl, rfl⟩ := hY
      refine ⟨4, rfl, by decide, by decide, ?_⟩
      refine for_it (walk_rng (n := 4)) (fun j σ H1 => ∃ y4 y5 y6, σ = [some (.ref sa), some (.ref fo), some (.ref kn), some (.int (i : Nat)), y4, y5, y6] ∧ CI S H fo kn (4 * i + j) H1)
        ⟨_, _, _, rfl, hci⟩ (fun _ _ _ _ _ => trivial) (fun j x σ H1 H2 hj hp hY => ?_) (fun σ H1 hp => ?_)
      · obtain ⟨z4, z5, z6, rfl, ws, s1, hfo, hws, hkn⟩ := hp
        obtain ⟨rfl, rfl⟩ := hY
        have hk : 4 * i + j < 4 * S.length := by omega
        have epr : prAt (4 * i + j) = (i, j) := by
          show ((4 * i + j) / 4, (4 * i + j) % 4) = (i, j)
          rw [show (4 * i + j) / 4 = i by omega, show (4 * i + j) % 4 = j by omega]
        have hkn1 := csSt_kn sh (4 * i + j) (by omega)
        have hcl := csSt_len S (4 * i + j)
        -- pair, row
        refine ⟨_, rfl, _, rfl, tup2_line, fun p0 np0 => ?_⟩
        refine ⟨Nat.zero_le _, fun ro nro => ?_⟩
        refine ⟨_, _, rfl, ?_⟩
        have sA : Same H2 (upd H2 p0 (.tup [.int (i : Nat), .int (j : Nat)])) := sm_upd np0
        have hfr : fo ≠ ro := ne_of_none (sA _ _ hfo) nro
        have nro0 : H ro = none := (s1.trans sA).free nro
        have sB := sA.trans (sm_upd nro (o := .lst []))
        -- while
        refine ⟨fun m σ H3 => ∃ pa known p row rs, σ = [some (.ref sa), some (.ref fo), some (.ref kn), some (.int (i : Nat)), some (.int (j : Nat)), some (.ref pa), some (.ref ro)] ∧ Same H H3 ∧ H3 fo = some (.lst ws) ∧ Tps H2 H3 ∧
            H3 kn = some (.dT (kdb known)) ∧ H3 pa = some (.tup [.int p.1, .int p.2]) ∧ H3 ro = some (.lst rs) ∧ IsAll H3 rs (row.map prD) ∧ Kn S known ∧ InR S.length p ∧ row.length ≤ known.length ∧ 4 * S.length + 1 ≤ known.length + m ∧
            wk S m known p row = wk S (4 * S.length + 1) (csSt S (4 * i + j)).1 (prAt (4 * i + j)) [],
          ⟨4 * S.length + 1, p0, (csSt S (4 * i + j)).1, (i, j), [], [], rfl, s1.trans sB, sB _ _ hfo, Tps.of sB, sB _ _ hkn, sm_upd nro _ _ upd_same, upd_same, .nil, hkn1, ⟨by omega, by omega⟩, Nat.zero_le _, by omega, by rw [epr]⟩, ?_⟩
        rintro m σ H3 ⟨pa, known, p, row, rs, rfl, s3, hfo3, tp3, hkn3, hpa, hro, hrs, hK, hin, hrl, hm, hwk⟩
        refine ⟨_, rfl, _, rfl, kn, _, rfl, DGet.t (k := pk p) hkn3 hpa, _, rfl, ?_⟩
        rw [valV_kdb]
        have hrsl := hrs.length
        rw [List.length_map] at hrsl
        have hKl := hK.len
        refine ite2 (fun c => ?_) (fun c => ?_)
        · have hn : p ∉ known := by simpa using c
          have hK2 := hK.snoc hin hn
          have hK2l := hK2.len
          rw [List.length_append] at hK2l
          have hK2l' : known.length + 1 ≤ 4 * S.length := hK2l
          obtain ⟨m', rfl⟩ : ∃ m', m = m' + 1 := ⟨m - 1, by omega⟩
          rw [wk_out _ hn] at hwk
          refine ⟨fun σ H4 => ∃ pa p row rs, σ = [some (.ref sa), some (.ref fo), some (.ref kn), some (.int (i : Nat)), some (.int (j : Nat)), some (.ref pa), some (.ref ro)] ∧ Same H H4 ∧ H4 fo = some (.lst ws) ∧ Tps H2 H4 ∧
            H4 kn = some (.dT (kdb (known ++ [p]))) ∧ H4 pa = some (.tup [.int (nx S p).1, .int (nx S p).2]) ∧ H4 ro = some (.lst rs) ∧ IsAll H4 rs ((row ++ [p]).map prD) ∧ Kn S (known ++ [p]) ∧ InR S.length (nx S p) ∧ (row ++ [p]).length ≤ (known ++ [p]).length ∧
            wk S m' (known ++ [p]) (nx S p) (row ++ [p]) = wk S (4 * S.length + 1) (csSt S (4 * i + j)).1 (prAt (4 * i + j)) [], fun σ' H' hN => ?_, ?_⟩
          · obtain ⟨pa', p', row', rs', e1, e2, e3, e4, e5, e6, e7, e8, e9, e10, e11, e12⟩ := hN
            exact ⟨m', Nat.lt_succ_self _, pa', known ++ [p'], nx S p', row' ++ [p'], rs', e1, e2, e3, e4, e5, e6, e7, e8, e9, e10, e11, by rw [List.length_append]; show _ ≤ known.length + 1 + m'; omega, e12⟩
          -- known[pair] = True
          refine ⟨_, rfl, _, rfl, kn, _, rfl, DPut.t (k := pk p) hkn3 hpa (by rw [kdb_len]; exact small1000 (by omega)), ?_⟩
          rw [putK_kdb hn]
          have nkr : ro ≠ kn := ne_of hro hkn3 (by intro z; cases z)
          have npk : pa ≠ kn := ne_of hpa hkn3 (by intro z; cases z)
          have npr : pa ≠ ro := ne_of hpa hro (by intro z; cases z)
          have tp4 : Tps H3 (upd H3 kn (.dT (kdb (known ++ [p])))) := Tps.updT hkn3
          have s4 : Same H (upd H3 kn (.dT (kdb (known ++ [p])))) := sm_upd2 s3 nkn0
          have hro4 : (upd H3 kn (.dT (kdb (known ++ [p])))) ro = some (.lst rs) := by rw [upd_ne nkr]; exact hro
          -- row.append(pair)
          refine ⟨_, rfl, .inl ⟨rfl, _, SqL.of hro4⟩, _, rfl, ro, _, _, rfl, rfl, hro4, small1000 (by omega), ?_⟩
          have tp5 : Tps (upd H3 kn (.dT (kdb (known ++ [p])))) (upd (upd H3 kn (.dT (kdb (known ++ [p])))) ro (.lst (rs ++ [.ref pa]))) := Tps.upd hro4
          have s5 : Same H (upd (upd H3 kn (.dT (kdb (known ++ [p])))) ro (.lst (rs ++ [.ref pa]))) := sm_upd2 s4 nro0
          have hpa5 := tp5 _ _ (tp4 _ _ hpa)
          -- pair = skin[pair[0]][(pair[1] - 1) % 4]
          obtain ⟨r, er, er2⟩ := sh.at hin.1 (show (p.2 + 3) % 4 < 4 by omega)
          obtain ⟨b, rr, eb, hb, _, hcell⟩ := hrow p.1 r er
          obtain ⟨c2, ec2, hc2⟩ := hcell _ _ er2
          refine ⟨_, rfl, _, rfl, pa, _, 0, _, rfl, rfl, SqT.of hpa5, atI_nat (j := 0) rfl, sa, us, (p.1 : Nat), .ref b, rfl, rfl, SqT.of (s5 _ _ hsa), atI_nat eb, ?_⟩
          refine ⟨_, rfl, pa, _, 1, _, rfl, rfl, SqT.of hpa5, atI_nat (j := 1) rfl, _, _, rfl, rfl, _, _, rfl, rfl, (show (0 : Int) < 4 by decide), ?_⟩
          refine ⟨b, rr, _, .ref c2, rfl, rfl, SqT.of (s5 _ _ hb), by rw [mod4]; exact atI_nat ec2, ?_⟩
          refine ⟨c2, p, row, rs ++ [.ref pa], rfl, s5, ?_, ((tp3.trans tp4).trans tp5), ?_, s5 _ _ hc2, upd_same, ?_, hK2, nx_in sh hin, ?_, hwk⟩
          · rw [upd_ne hfr, upd_ne hfk]
            exact hfo3
          · rw [upd_ne nkr.symm, upd_same]
          · rw [List.map_append]
            exact (IsAll.tp (tp4.trans tp5) _ _ (tu_prs _) hrs).append (.cons (prD_is hpa5) .nil)
          · rw [List.length_append, List.length_append]
            show row.length + 1 ≤ known.length + 1
            omega
        · have hn : p ∈ known := by simpa using c
          rw [wk_in _ hn] at hwk
          -- if len(row) > 0
          refine ⟨_, rfl, ro, rs, rfl, .inl (SqL.of hro), _, _, rfl, rfl, _, rfl, ?_⟩
          have est : csSt S (4 * i + j + 1) = (known, if 0 < row.length then (csSt S (4 * i + j)).2 ++ [row] else (csSt S (4 * i + j)).2) := by
            show ((wk S (4 * S.length + 1) (csSt S (4 * i + j)).1 (prAt (4 * i + j)) []).1, if 0 < (wk S (4 * S.length + 1) (csSt S (4 * i + j)).1 (prAt (4 * i + j)) []).2.length then (csSt S (4 * i + j)).2 ++ [(wk S (4 * S.length + 1) (csSt S (4 * i + j)).1 (prAt (4 * i + j)) []).2] else (csSt S (4 * i + j)).2) = _
            rw [← hwk]
          refine ite2 (fun c2 => ?_) (fun c2 => ?_)
          · have hpos : 0 < row.length := by
              have : (0 : Int) < (rs.length : Int) := of_decide_eq_true c2
              omega
            rw [if_pos hpos] at est
            refine ⟨_, rfl, .inl ⟨rfl, _, SqL.of hfo3⟩, _, rfl, ro, rs, rfl, .inl ⟨SqL.of hro, fun t nt => ?_⟩⟩
            have s6 := sm_upd nt (o := .tup rs)
            have hwl := hws.length
            rw [List.length_map] at hwl
            refine ⟨fo, _, _, rfl, rfl, s6 _ _ hfo3, small1000 (by omega), ?_⟩
            have tp7 : Tps (upd H3 t (.tup rs)) (upd (upd H3 t (.tup rs)) fo (.lst (ws ++ [.ref t]))) := Tps.upd (s6 _ _ hfo3)
            refine ⟨_, _, _, rfl, ws ++ [.ref t], sm_upd2 (s3.trans s6) nfo, upd_same, ?_, ?_⟩
            · rw [show 4 * i + (j + 1) = 4 * i + j + 1 by omega, est, List.map_append]
              refine (IsAll.tp ((tp3.trans (Tps.of s6)).trans tp7) _ _ (tu_rows _) hws).append (.cons ?_ .nil)
              exact .tup (tp7 _ _ upd_same) (IsAll.tp ((Tps.of s6).trans tp7) _ _ (tu_prs _) hrs)
            · rw [show 4 * i + (j + 1) = 4 * i + j + 1 by omega, est, upd_ne hfk.symm]
              exact s6 _ _ hkn3
          · have hz : ¬ 0 < row.length := by
              have : ¬ (0 : Int) < (rs.length : Int) := of_decide_eq_false (Bool.eq_false_iff.mpr c2)
              omega
            rw [if_neg hz] at est
            refine ⟨_, _, _, rfl, ws, s3, hfo3, ?_, ?_⟩
            · rw [show 4 * i + (j + 1) = 4 * i + j + 1 by omega, est]
              exact IsAll.tp tp3 _ _ (tu_rows _) hws
            · rw [show 4 * i + (j + 1) = 4 * i + j + 1 by omega, est]
              exact hkn3
      · obtain ⟨z4, z5, z6, rfl, hci2⟩ := hp
        exact ⟨_, _, _, _, rfl, by rw [show 4 * (i + 1) = 4 * i + 4 by omega]; exact hci2⟩
    · obtain ⟨y3, y4, y5, y6, rfl, ws, s1, hfo, hws, hkn⟩ := hp
      rw [hul] at hws
      exact ⟨_, rfl, fo, ws, rfl, .inl ⟨SqL.of hfo, fun r nr => q _ _ (s1.trans (sm_upd nr)) (.tup upd_same (hws.sm (sm_upd nr)))⟩⟩
end
end Hp5

set_option maxHeartbeats 4000000
namespace Hp5
open PySem PySem.Spec PyProof.Rows L2
/-- a comprehension that makes data, whatever its target; no test -/
theorem lc_ds {J : It} {n : Nat} {G : Hp → Prop} {Y : Nat → Hp → V → Hp → Prop} (wk : Walk J n G Y) {g : TG} {te : TE} {vs : List Nat} {σ : L2.St} {H1 : Hp} {D : Addr} {Qd : Hp → Prop} (ds : List Dt) (hn : ds.length = n) (hl : n ≤ 1000) (nD : H1 D = none)
    (hG : ∀ H, Same H1 H → G H) (ht : ∀ d ∈ ds, Tu d)
    (hs : ∀ (i : Nat) (x : V) (H H' : Hp) (d : Dt) (C : V → Hp → Prop) (Z : Hp → Prop), i < n → ds[i]? = some d → Same H1 H → Y i H x H' → (∀ y H4, Same H H4 → Is H4 y d → C y H4) →
      g x (wipe σ vs) H' fun σ2 H2 => wipe σ2 vs = wipe σ vs ∧ tYes σ2 H2 fun b H3 => if b = true then te σ2 H3 C else Z H3)
    (hd : ∀ H ws, Same H1 H → H D = some (.lst ws) → IsAll H ws ds → Qd H) :
    ∃ W : Nat → Nat → Hp → Prop, (∃ m, W 0 m (upd H1 D (.lst []))) ∧ ∀ i m H, W i m H →
      (J.stop i H ∧ Qd H) ∨ (J.go i H ∧ ∃ Nx : Hp → Prop, (∀ H', Nx H' → ∃ m', m' < m ∧ W (i + 1) m' H') ∧ ∀ x H', J.yld i H x H' → g x (wipe σ vs) H' fun σ2 H2 => wipe σ2 vs = wipe σ vs ∧ tYes σ2 H2 fun b H3 =>
        if b = true then te σ2 H3 fun y H4 => ∃ acc, H4 D = some (.lst acc) ∧ acc.length < sizeLine ∧ Nx (upd H4 D (.lst (acc ++ [y]))) else Nx H3) := by
  have fe : (ds.map some).filterMap id = ds := by
    rw [List.filterMap_map]
    exact List.filterMap_some
  refine lc_if wk (ds.map some) (by rw [List.length_map]; exact hn) hl nD hG (fun d hd' => ?_) (fun i x H H' o C Z hi ho sm hy hc _ => ?_) (fun H ws sm hD hws => hd H ws sm hD (fe ▸ hws))
  · obtain ⟨q, hq, e⟩ := List.mem_map.mp hd'
    cases e
    exact ht _ hq
  · rw [List.getElem?_map] at ho
    obtain ⟨d, hd', e⟩ := Option.map_eq_some_iff.mp ho
    exact hs i x H H' d C Z hi hd' sm hy (hc d e.symm)
theorem dget_n {H : Hp} {a b : Addr} {D : List (Pr × V)} {p : Pr} (h : H a = some (.dT (kd D))) (hb : H b = some (.tup [.int p.1, .int p.2])) (hi : IntsD D) (hk : HasK D p) : DGet H a (.ref b) (some (.int (lookN D p : Nat))) := by
  have e : valV (kd D) (pk p) = some (.int (lookN D p : Nat)) := (valV_kd p D).trans (lookN_at hi hk)
  exact e ▸ DGet.t (k := pk p) h hb
theorem at_ints (R : List (List Pr)) : IntsD (atM R) := atTo_ints R _
theorem names_ints (S : Skin) : IntsD (namesM S) := namesTo_ints S _
theorem plus4 (b : Nat) : ((b : Int) + 1) % 4 = (((b + 1) % 4 : Nat) : Int) := by omega
theorem tup_eq {H : Hp} {p : Addr} {x : V} {i j : Int} (e : i = j) : (upd H p (.tup [x, .int i])) p = some (.tup [x, .int j]) := by rw [upd_same, e]
section
variable {P : Program} {w : World} {K : PySem.W.Frag} {mg : Str → Option Value} {base : Heap}
def spNumb : Sp := fun vs H Q _ => ∃ (v : V) (S : Skin), vs = [v] ∧ Is H v (skD S) ∧ Valid S ∧ ∀ a H', Same H H' → H' a = some (.dT (kd (atM (cornersM S)))) → Q (.ref a) H'
abbrev ns_corner_numbers : List Str := ["skin", "found", "number", "row", "pair"]
theorem sc_corner_numbers : FnScope ns_corner_numbers ["skin"] (defScope s_corner_numbers) := ⟨rfl, rfl, rfl, by decide +kernel, rfl, by decide +kernel, by decide +kernel⟩
theorem ok_corner_numbers (T : Tx K mg) : OkD P w K mg base 2 "corner_numbers" ["skin"] spNumb := by
  have G_corners_in : OkD P w K mg base 1 "corners_in" ["skin"] spCorn := ok_corners_in T
  refine T.d_corner_numbers.ok sc_corner_numbers (fun vs H Q E h => ?_) (fun cdv A outer s H vs Q E hr h => ?_)
  · obtain ⟨v, S, rfl, _⟩ := h
    rfl
  · obtain ⟨v, S, rfl, hv, vd, q⟩ := h
    have hv0 := hv
    obtain ⟨sa, us, rfl, hsa, hul, hrow⟩ := row_at hv
    have nn := sc_corner_numbers.nd
    have hu := hu_of hr
    have few := vd.sh.few
    -- slots: 0 skin, 1 found, 2 number, 3 row, 4 pair; calls: corners_in
    refine ⟨_, (pss_cons (ps_set (i := 1) nn rfl (by first | exact .inl rfl | exact .inr rfl) pe_dnewT)
      (pss_cons (ps_for PassesOwn.never rfl (piET K T.m_enumerate (pa_cons (pe_c G_corners_in hr (by decide) (pa_cons (pv 0) pa_nil)) pa_nil)) (pgT K (n := 2) (pgs_cons (pg_name (i := 2) nn rfl (by first | exact .inl rfl | exact .inr rfl)) (pgs_cons (pg_name (i := 3) nn rfl (by first | exact .inl rfl | exact .inr rfl)) pgs_nil))) (pss_one (ps_for PassesOwn.never rfl (piT K (pv 3)) (pg_name (i := 4) nn rfl (by first | exact .inl rfl | exact .inr rfl)) (pss_one (ps_dput hu (pv 1) (pv 4) (pv 2) rfl)))))
      (pss_one (ps_ret (pv 1))))), ?_⟩
    intro d nd
    have s0 : Same H (upd H d (.dT [])) := sm_upd nd
    refine ⟨_, rfl, _, S, rfl, hv0.sm s0, vd.sh, fun cv H1 s1 hcv => ?_⟩
    have hd1 := s1 _ _ upd_same
    have sH1 := s0.trans s1
    obtain ⟨ca, cus, rfl, hca, hcl, hcrow⟩ := row_at hcv
    refine ⟨ca, cus, rfl, SqT.of hca, ?_⟩
    refine for_it (walk_enT (K := K) (a := ca) (xs := cus)) (fun i σ H2 => ∃ y2 y3 y4, σ = [some (.ref sa), some (.ref d), y2, y3, y4] ∧ Same H H2 ∧ Tps H1 H2 ∧ H2 d = some (.dT (kd (atTo (cornersM S) i))) ∧ KeysIn S.length (atTo (cornersM S) i))
      ⟨_, _, _, rfl, sH1, Tps.of (Same.refl _), hd1, KeysIn.nil _⟩ (fun i σ H2 hi hp => ?_) (fun i x σ H2 H3 hi hp hY => ?_) (fun σ H2 hp => ?_)
    · obtain ⟨_, _, _, _, _, tp, _⟩ := hp
      exact SqT.of (tp _ _ hca)
    · obtain ⟨y2, y3, y4, rfl, s2, tp, hd2, hk2⟩ := hp
      obtain ⟨t, xi, xe, rfl, nt, rfl, e1, e2⟩ := hY
      cases e1
      obtain ⟨r, er⟩ := lt_get (l := cornersM S) (i := i) (by omega)
      obtain ⟨b, rs, eb, hb, hrl, hcell⟩ := hcrow i r er
      obtain rfl : xe = .ref b := Option.some.inj (e2.symm.trans eb)
      have eg : (cornersM S).getD i [] = r := by rw [List.getD_eq_getElem?_getD, er] <;> rfl
      obtain ⟨_, _, _, rin⟩ := row_facts vd (List.mem_of_getElem? er)
      have s3 := s2.trans (sm_upd nt (o := .tup [.int (i : Nat), .ref b]))
      have tp3 := tp.trans (Tps.of (sm_upd nt (o := .tup [.int (i : Nat), .ref b])))
      refine ⟨t, [_, _], rfl, SqT.of upd_same, rfl, _, _, rfl, _, _, rfl, rfl, ?_⟩
      refine ⟨_, rfl, b, rfl, ⟨rs, SqT.of (tp3 _ _ hb)⟩, ?_⟩
      refine for_it (walk_tup (K := K) (a := b) (xs := rs)) (fun j σ H4 => ∃ y4, σ = [some (.ref sa), some (.ref d), some (.int (i : Nat)), some (.ref b), y4] ∧ Same H H4 ∧ Tps H1 H4 ∧ H4 d = some (.dT (kd (atRow (atTo (cornersM S) i) i r j))) ∧ KeysIn S.length (atRow (atTo (cornersM S) i) i r j))
        ⟨_, rfl, s3, tp3, sm_upd nt _ _ hd2, hk2⟩ (fun j σ H4 hj hp => ?_) (fun j x σ H4 H5 hj hp hY => ?_) (fun σ H4 hp => ?_)
      · obtain ⟨_, _, _, tp4, _⟩ := hp
        exact SqT.of (tp4 _ _ hb)
      · obtain ⟨z4, rfl, s4, tp4, hd4, hk4⟩ := hp
        obtain ⟨rfl, hx⟩ := hY
        obtain ⟨p, ep⟩ := lt_get (l := r) (i := j) (by omega)
        obtain ⟨c, ec, hc⟩ := hcell j p ep
        obtain rfl : x = .ref c := Option.some.inj (hx.symm.trans ec)
        have egp : r.getD j (0, 0) = p := by rw [List.getD_eq_getElem?_getD, ep] <;> rfl
        have hkl := hk4.len
        refine ⟨_, rfl, _, rfl, _, rfl, d, _, rfl, DPut.t (k := pk p) hd4 (tp4 _ _ hc) (by rw [kd_len]; exact small1000 (by omega)), ?_⟩
        rw [putK_kd]
        refine ⟨_, rfl, sm_upd2 s4 nd, tp4.trans (Tps.updT hd4), ?_, ?_⟩
        · rw [upd_same]
          show _ = some (HO.dT (kd (putK (atRow (atTo (cornersM S) i) i r j) (r.getD j (0, 0)) _)))
          rw [egp]
        · show KeysIn _ (putK (atRow (atTo (cornersM S) i) i r j) (r.getD j (0, 0)) _)
          rw [egp]
          exact hk4.put (rin p (List.mem_of_getElem? ep)) _
      · obtain ⟨z4, rfl, s4, tp4, hd4, hk4⟩ := hp
        have e : atTo (cornersM S) (i + 1) = atRow (atTo (cornersM S) i) i r rs.length := by
          show atRow (atTo (cornersM S) i) i ((cornersM S).getD i []) ((cornersM S).getD i []).length = _
          rw [eg, hrl]
        exact ⟨_, _, _, rfl, s4, tp4, by rw [e]; exact hd4, by rw [e]; exact hk4⟩
    · obtain ⟨y2, y3, y4, rfl, s2, tp, hd2, hk2⟩ := hp
      rw [hcl] at hd2
      exact ⟨_, rfl, q d H2 s2 hd2⟩
def spEnds : Sp := fun vs H Q _ => ∃ (v : V) (S : Skin), vs = [v] ∧ Is H v (skD S) ∧ Valid S ∧ ∀ a ws H', Same H H' → H' a = some (.lst ws) → IsAll H' ws ((endsM S).map prD) → Q (.ref a) H'
abbrev ns_all_ends : List Str := ["skin", "names", "field", "side"]
theorem sc_all_ends : FnScope ns_all_ends ["skin"] (defScope s_all_ends) := ⟨rfl, rfl, rfl, by decide +kernel, rfl, by decide +kernel, by decide +kernel⟩
theorem ok_all_ends (T : Tx K mg) : OkD P w K mg base 3 "all_ends" ["skin"] spEnds := by
  have G_corner_numbers : OkD P w K mg base 2 "corner_numbers" ["skin"] spNumb := ok_corner_numbers T
  have G_edges_in : OkD P w K mg base 1 "edges_in" ["skin"] spEdges := ok_edges_in T
  refine T.d_all_ends.ok sc_all_ends (fun vs H Q E h => ?_) (fun cdv A outer s H vs Q E hr h => ?_)
  · obtain ⟨v, S, rfl, _⟩ := h
    rfl
  · obtain ⟨v, S, rfl, hv, vd, q⟩ := h
    have nn := sc_all_ends.nd
    have hu := hu_of hr
    have few := vd.sh.few
    -- slots: 0 skin, 1 names, 2 field, 3 side; calls: corner_numbers, edges_in
    refine ⟨_, (pss_cons (ps_set (i := 1) nn rfl (by first | exact .inl rfl | exact .inr rfl) (pe_c G_corner_numbers hr (by decide) (pa_cons (pv 0) pa_nil)))
      (pss_one (ps_ret (pe_lc (own := [("field", 2), ("side", 3)]) (tt := tYes) rfl nn (piL K (pe_c G_edges_in hr (by decide) (pa_cons (pv 0) pa_nil))) (blkOk_by (N := ns_all_ends) (sc := defScope s_all_ends) (by decide +kernel)) (fun _ _ _ _ _ => (pgT K (n := 2) (pgs_cons (pg_name (i := 2) nn rfl (by first | exact .inl rfl | exact .inr rfl)) (pgs_cons (pg_name (i := 3) nn rfl (by first | exact .inl rfl | exact .inr rfl)) pgs_nil)))) (fun _ _ _ _ _ => pts_nil) (fun _ _ _ _ _ => (pe_tup (pa_cons (pe_dget hu (pv 1) (pe_tup (pa_cons (pv 2) (pa_cons (pv 3) pa_nil))) (fun _ _ => rfl)) (pa_cons (pe_dget hu (pv 1) (pe_tup (pa_cons (pv 2) (pa_cons (pe_op op_mod (pe_op op_add (pv 3) pe_int) pe_int) pa_nil))) (fun _ _ => rfl)) pa_nil)))))))), ?_⟩
    refine ⟨_, rfl, v, S, rfl, hv, vd, fun d H1 s1 hd1 => ?_⟩
    refine ⟨_, rfl, v, S, rfl, hv.sm s1, vd.sh, fun l ws H2 s2 hl hws => ?_⟩
    have hwl := hws.length
    rw [List.length_map] at hwl
    have hel := edgesTo_len S S.length
    refine ⟨l, rfl, ⟨ws, SqL.of hl⟩, fun D nD => ?_⟩
    refine lc_ds (walk_list (K := K) (a := l) (xs := ws)) ((endsM S).map prD) (by unfold endsM; rw [List.length_map, List.length_map, hwl]) (by unfold edgesM at hwl; omega) nD (fun H3 s3 => SqL.of (s3 _ _ hl)) (fun d hd => tuAll_iff.mp (tu_prs _) d hd)
      (fun i x H3 H4 dd C Z hi hdd s3 hY hC => ?_) (fun H3 zs s3 hD hzs => q D zs H3 ((s1.trans s2).trans s3) hD hzs)
    obtain ⟨rfl, hx⟩ := hY
    obtain ⟨e, he⟩ := lt_get (l := edgesM S) (i := i) (by omega)
    obtain ⟨x', hx', hie⟩ := hws.get (i := i) (d := prD e) (by rw [List.getElem?_map, he] <;> rfl)
    obtain rfl : x = x' := Option.some.inj (hx.symm.trans hx')
    obtain ⟨c, rfl, hc⟩ := hie.prE
    have heR := (mem_edges.mp (List.mem_of_getElem? he)).1
    have edd : dd = prD (lookN (atM (cornersM S)) e, lookN (atM (cornersM S)) (e.1, (e.2 + 1) % 4)) := by
      unfold endsM at hdd
      rw [List.getElem?_map, List.getElem?_map, he] at hdd
      exact (Option.some.inj hdd).symm
    subst edd
    have hd3 := s3 _ _ (s2 _ _ hd1)
    refine ⟨c, [_, _], rfl, SqT.of (s3 _ _ hc), rfl, _, _, rfl, _, _, rfl, rfl, rfl, tyes (iteT ?_)⟩
    refine ⟨_, rfl, _, rfl, _, rfl, tup2_line, fun p1 np1 => ?_⟩
    have s4 := sm_upd np1 (o := .tup [.int (e.1 : Nat), .int (e.2 : Nat)])
    refine ⟨d, _, rfl, dget_n (p := e) (s4 _ _ hd3) upd_same (at_ints _) (at_has vd heR), ?_⟩
    refine ⟨_, rfl, _, rfl, _, rfl, _, _, rfl, rfl, _, _, rfl, rfl, (show (0 : Int) < 4 by decide), tup2_line, fun p2 np2 => ?_⟩
    have s5 := s4.trans (sm_upd np2 (o := .tup [.int (e.1 : Nat), .int ((((e.2 : Nat) : Int) + 1) % 4)]))
    refine ⟨d, _, rfl, dget_n (p := (e.1, (e.2 + 1) % 4)) (s5 _ _ hd3) (tup_eq (plus4 _)) (at_ints _) (at_has vd ⟨heR.1, Nat.mod_lt _ (by decide)⟩), tup2_line, fun p3 np3 => ?_⟩
    exact hC _ _ (s5.trans (sm_upd np3)) (prD_is upd_same)
def spSCorner : Sp := fun vs H Q _ => ∃ (v : V) (S : Skin) (k : Nat), vs = [v, .int k] ∧ Is H v (skD S) ∧ Shaped S ∧ k < (cornersM S).length ∧ ∀ H', Same H H' → Q (.int k) H'
abbrev ns_sure_corner : List Str := ["skin", "corner"]
theorem sc_sure_corner : FnScope ns_sure_corner ["skin", "corner"] (defScope s_sure_corner) := ⟨rfl, rfl, rfl, by decide +kernel, rfl, by decide +kernel, by decide +kernel⟩
theorem ok_sure_corner (T : Tx K mg) : OkD P w K mg base 3 "sure_corner" ["skin", "corner"] spSCorner := by
  have G_corners_in : OkD P w K mg base 1 "corners_in" ["skin"] spCorn := ok_corners_in T
  have G_is_number : OkD P w K mg base 1 "is_number" ["thing"] spNum := ok_is_number T
  have G_is_within : OkD P w K mg base 2 "is_within" ["thing", "least", "most"] spWithin := ok_is_within T
  refine T.d_sure_corner.ok sc_sure_corner (fun vs H Q E h => ?_) (fun cdv A outer s H vs Q E hr h => ?_)
  · obtain ⟨v, S, f, rfl, _⟩ := h
    rfl
  · obtain ⟨v, S, f, rfl, hv, sh, hf, q⟩ := h
    have nn := sc_sure_corner.nd
    -- slots: 0 skin, 1 corner; calls: corners_in, is_number, is_within
    refine ⟨_, (pss_cons (ps_if (pt_not (pt_val (pe_c G_is_number hr (by decide) (pa_cons (pv 1) pa_nil)))) pss_never pss_nil)
      (pss_cons (ps_if (pt_not (pt_val (pe_c G_is_within hr (by decide) (pa_cons (pv 1) (pa_cons pe_int (pa_cons (pe_op op_sub (pe_callB (cLen K) (by rfl) T.m_len bt_len (pa_cons (pe_c G_corners_in hr (by decide) (pa_cons (pv 0) pa_nil)) pa_nil)) pe_int) pa_nil)))))) pss_never pss_nil)
      (pss_one (ps_ret (pv 1))))), ?_⟩
    refine ⟨_, rfl, f, rfl, true, rfl, iteF ?_⟩
    refine ⟨_, rfl, _, rfl, v, S, rfl, hv, sh, fun cv H1 s1 hcv => ?_⟩
    obtain ⟨ca, cus, rfl, hca, hcl, hcrow⟩ := row_at hcv
    refine ⟨ca, cus, rfl, .inr (SqT.of hca), _, _, rfl, rfl, f, 0, (cus.length : Int) - 1, rfl, by omega, by omega, true, rfl, iteF ?_⟩
    exact ⟨_, rfl, q _ s1⟩
def spCorners : Sp := fun vs H Q _ => ∃ (v : V) (d : Dt) (S : Skin), vs = [v] ∧ Is H v d ∧ SkL d S ∧ Valid S ∧ ∀ v' H', Same H H' → Is H' v' (skD (cornersM S)) → Q v' H'
abbrev ns_corners : List Str := ["skin"]
theorem sc_corners : FnScope ns_corners ["skin"] (defScope s_corners) := ⟨rfl, rfl, rfl, by decide +kernel, rfl, by decide +kernel, by decide +kernel⟩
theorem ok_corners (T : Tx K mg) : OkD P w K mg base 7 "corners" ["skin"] spCorners := by
  have G_corners_in : OkD P w K mg base 1 "corners_in" ["skin"] spCorn := ok_corners_in T
  have G_sure_skin : OkD P w K mg base 6 "sure_skin" ["skin"] spSure := ok_sure_skin T
  refine T.d_corners.ok sc_corners (fun vs H Q E h => ?_) (fun cdv A outer s H vs Q E hr h => ?_)
  · obtain ⟨v, d, S, rfl, _⟩ := h
    rfl
  · obtain ⟨v, d, S, rfl, hv, hl, vd, q⟩ := h
    have nn := sc_corners.nd
    -- slots: 0 skin; calls: corners_in, sure_skin
    refine ⟨_, (pss_one (ps_ret (pe_c G_corners_in hr (by decide) (pa_cons (pe_c G_sure_skin hr (by decide) (pa_cons (pv 0) pa_nil)) pa_nil)))), ?_⟩
    exact ⟨_, rfl, v, d, S, rfl, hv, hl, vd, fun v' H1 s1 h1 => ⟨v', S, rfl, h1, vd.sh, fun v2 H2 s2 h2 => q v2 H2 (s1.trans s2) h2⟩⟩
def spCof : Sp := fun vs H Q _ => ∃ (v : V) (d : Dt) (S : Skin) (p : Pr), vs = [v, .int p.1, .int p.2] ∧ Is H v d ∧ SkL d S ∧ Valid S ∧ InR S.length p ∧ ∀ H', Same H H' → Q (.int (lookN (atM (cornersM S)) p : Nat)) H'
abbrev ns_corner_of : List Str := ["skin", "field", "side", "own"]
theorem sc_corner_of : FnScope ns_corner_of ["skin", "field", "side"] (defScope s_corner_of) := ⟨rfl, rfl, rfl, by decide +kernel, rfl, by decide +kernel, by decide +kernel⟩
theorem ok_corner_of (T : Tx K mg) : OkD P w K mg base 7 "corner_of" ["skin", "field", "side"] spCof := by
  have G_corner_numbers : OkD P w K mg base 2 "corner_numbers" ["skin"] spNumb := ok_corner_numbers T
  have G_sure_skin : OkD P w K mg base 6 "sure_skin" ["skin"] spSure := ok_sure_skin T
  have G_is_number : OkD P w K mg base 1 "is_number" ["thing"] spNum := ok_is_number T
  have G_is_side : OkD P w K mg base 3 "is_side" ["thing"] spSide := ok_is_side T
  have G_sure_field : OkD P w K mg base 3 "sure_field" ["skin", "field"] spField := ok_sure_field T
  refine T.d_corner_of.ok sc_corner_of (fun vs H Q E h => ?_) (fun cdv A outer s H vs Q E hr h => ?_)
  · obtain ⟨v, d, S, p, rfl, _⟩ := h
    rfl
  · obtain ⟨v, d, S, p, rfl, hv, hl, vd, hp, q⟩ := h
    have nn := sc_corner_of.nd
    have hu := hu_of hr
    -- slots: 0 skin, 1 field, 2 side, 3 own; calls: corner_numbers, is_number, is_side, sure_field, sure_skin
    refine ⟨_, (pss_cons (ps_set (i := 3) nn rfl (by first | exact .inl rfl | exact .inr rfl) (pe_c G_sure_skin hr (by decide) (pa_cons (pv 0) pa_nil)))
      (pss_cons (ps_if (PW.pt (pw_or (pt_not (pt_val (pe_c G_is_number hr (by decide) (pa_cons (pv 1) pa_nil)))) (pw_or1 (pt_not (pt_val (pe_c G_is_side hr (by decide) (pa_cons (pv 2) pa_nil))))))) pss_never pss_nil)
      (pss_one (ps_ret (pe_dget hu (pe_c G_corner_numbers hr (by decide) (pa_cons (pv 3) pa_nil)) (pe_tup (pa_cons (pe_c G_sure_field hr (by decide) (pa_cons (pv 3) (pa_cons (pv 1) pa_nil))) (pa_cons (pv 2) pa_nil))) (fun _ _ => rfl)))))), ?_⟩
    refine ⟨_, rfl, v, d, S, rfl, hv, hl, vd, fun v' H1 s1 h1 => ?_⟩
    have hp2 := hp.2
    refine ⟨_, rfl, p.1, rfl, true, rfl, iteF ?_⟩
    refine ⟨_, rfl, p.2, rfl, by omega, by omega, true, rfl, iteF ?_⟩
    refine ⟨_, rfl, v', S, rfl, h1, vd, fun dd H2 s2 hd2 => ?_⟩
    refine ⟨_, rfl, _, rfl, v', S, p.1, rfl, h1.sm s2, hp.1, _, rfl, tup2_line, fun p1 np1 => ?_⟩
    have s3 := sm_upd np1 (o := .tup [.int (p.1 : Nat), .int (p.2 : Nat)])
    exact ⟨dd, _, rfl, dget_n (p := p) (s3 _ _ hd2) upd_same (at_ints _) (at_has vd hp), q _ ((s1.trans s2).trans s3)⟩
def spCat : Sp := fun vs H Q _ => ∃ (v : V) (d : Dt) (S : Skin) (f : Nat), vs = [v, .int f] ∧ Is H v d ∧ SkL d S ∧ Valid S ∧ f < S.length ∧ ∀ v' H', Same H H' → Is H' v' (.tup ((List.range 4).map fun b => Dt.int (lookN (atM (cornersM S)) (f, b) : Nat))) → Q v' H'
abbrev ns_corners_at : List Str := ["skin", "field", "own", "number", "names", "side"]
theorem sc_corners_at : FnScope ns_corners_at ["skin", "field"] (defScope s_corners_at) := ⟨rfl, rfl, rfl, by decide +kernel, rfl, by decide +kernel, by decide +kernel⟩
theorem ok_corners_at (T : Tx K mg) : OkD P w K mg base 7 "corners_at" ["skin", "field"] spCat := by
  have G_corner_numbers : OkD P w K mg base 2 "corner_numbers" ["skin"] spNumb := ok_corner_numbers T
  have G_sure_skin : OkD P w K mg base 6 "sure_skin" ["skin"] spSure := ok_sure_skin T
  have G_sure_field : OkD P w K mg base 3 "sure_field" ["skin", "field"] spField := ok_sure_field T
  refine T.d_corners_at.ok sc_corners_at (fun vs H Q E h => ?_) (fun cdv A outer s H vs Q E hr h => ?_)
  · obtain ⟨v, d, S, f, rfl, _⟩ := h
    rfl
  · obtain ⟨v, d, S, f, rfl, hv, hl, vd, hf, q⟩ := h
    have nn := sc_corners_at.nd
    have hu := hu_of hr
    -- slots: 0 skin, 1 field, 2 own, 3 number, 4 names, 5 side; calls: corner_numbers, sure_field, sure_skin
    refine ⟨_, (pss_cons (ps_set (i := 2) nn rfl (by first | exact .inl rfl | exact .inr rfl) (pe_c G_sure_skin hr (by decide) (pa_cons (pv 0) pa_nil)))
      (pss_cons (ps_asg (pe_tup (pa_cons (pe_c G_sure_field hr (by decide) (pa_cons (pv 2) (pa_cons (pv 1) pa_nil))) (pa_cons (pe_c G_corner_numbers hr (by decide) (pa_cons (pv 2) pa_nil)) pa_nil))) (pgT K (n := 2) (pgs_cons (pg_name (i := 3) nn rfl (by first | exact .inl rfl | exact .inr rfl)) (pgs_cons (pg_name (i := 4) nn rfl (by first | exact .inl rfl | exact .inr rfl)) pgs_nil))))
      (pss_one (ps_ret (pe_callTy (cTup K) (by rfl) T.m_tuple bt_tuple (pa_cons (pe_lc (own := [("side", 5)]) (g := gName 5) (tt := tYes) rfl nn (pi_range1 (by rfl) T.m_range (pa_cons pe_int pa_nil)) (blkOk_by (N := ns_corners_at) (sc := defScope s_corners_at) (by decide +kernel)) (fun _ _ _ _ _ => (pg_name (i := 5) nn rfl (by first | exact .inl rfl | exact .inr rfl))) (fun _ _ _ _ _ => pts_nil) (fun _ _ _ _ _ => (pe_dget hu (pv 4) (pe_tup (pa_cons (pv 3) (pa_cons (pv 5) pa_nil))) (fun _ _ => rfl)))) pa_nil)))))), ?_⟩
    refine ⟨_, rfl, v, d, S, rfl, hv, hl, vd, fun v' H1 s1 h1 => ?_⟩
    refine ⟨_, rfl, _, rfl, v', S, f, rfl, h1, hf, ?_⟩
    refine ⟨_, rfl, v', S, rfl, h1, vd, fun dd H2 s2 hd2 => ?_⟩
    refine ⟨tup2_line, fun t nt => ?_⟩
    have s3 := sm_upd nt (o := .tup [.int (f : Nat), .ref dd])
    refine ⟨t, [_, _], rfl, SqT.of upd_same, rfl, _, _, rfl, _, _, rfl, rfl, ?_⟩
    refine ⟨4, rfl, by decide, by decide, fun D nD => ?_⟩
    refine lc_nm (walk_rng (n := 4)) ((List.range 4).map fun b => Dt.int (lookN (atM (cornersM S)) (f, b) : Nat)) rfl (by decide) nD (fun _ _ => trivial) (fun d hd => ?_) (fun x => rfl) (fun i x H3 H4 e C hi he s4 hY hC => ?_) (fun H3 ws s4 hD hws => ?_)
    · obtain ⟨b, _, rfl⟩ := List.mem_map.mp hd
      trivial
    · obtain ⟨rfl, rfl⟩ := hY
      rw [List.getElem?_map, List.getElem?_range hi] at he
      obtain rfl : Dt.int (lookN (atM (cornersM S)) (f, i) : Nat) = e := Option.some.inj he
      refine ⟨_, rfl, _, rfl, _, rfl, tup2_line, fun p1 np1 => ?_⟩
      have s5 := sm_upd np1 (o := .tup [.int (f : Nat), .int (i : Nat)])
      exact ⟨dd, _, rfl, dget_n (p := (f, i)) (s5 _ _ (s4 _ _ (s3 _ _ hd2))) upd_same (at_ints _) (at_has vd ⟨hf, hi⟩), hC _ _ s5 (.int _)⟩
    · exact ⟨D, ws, rfl, .inl ⟨SqL.of hD, fun r nr => q _ _ ((((s1.trans s2).trans s3).trans s4).trans (sm_upd nr)) (.tup upd_same (hws.sm (sm_upd nr)))⟩⟩
def spEof : Sp := fun vs H Q _ => ∃ (v : V) (d : Dt) (S : Skin) (e : Nat), vs = [v, .int e] ∧ Is H v d ∧ SkL d S ∧ Valid S ∧ e < 2 * S.length ∧ ∀ v' H', Same H H' → Is H' v' (prD ((endsM S).getD e (0, 0))) → Q v' H'
abbrev ns_ends_of : List Str := ["skin", "edge", "own"]
theorem sc_ends_of : FnScope ns_ends_of ["skin", "edge"] (defScope s_ends_of) := ⟨rfl, rfl, rfl, by decide +kernel, rfl, by decide +kernel, by decide +kernel⟩
theorem ok_ends_of (T : Tx K mg) : OkD P w K mg base 7 "ends_of" ["skin", "edge"] spEof := by
  have G_all_ends : OkD P w K mg base 3 "all_ends" ["skin"] spEnds := ok_all_ends T
  have G_sure_skin : OkD P w K mg base 6 "sure_skin" ["skin"] spSure := ok_sure_skin T
  have G_sure_edge : OkD P w K mg base 3 "sure_edge" ["skin", "edge"] spEdge := ok_sure_edge T
  refine T.d_ends_of.ok sc_ends_of (fun vs H Q E h => ?_) (fun cdv A outer s H vs Q E hr h => ?_)
  · obtain ⟨v, d, S, f, rfl, _⟩ := h
    rfl
  · obtain ⟨v, d, S, e, rfl, hv, hl, vd, he, q⟩ := h
    have nn := sc_ends_of.nd
    -- slots: 0 skin, 1 edge, 2 own; calls: all_ends, sure_edge, sure_skin
    refine ⟨_, (pss_cons (ps_set (i := 2) nn rfl (by first | exact .inl rfl | exact .inr rfl) (pe_c G_sure_skin hr (by decide) (pa_cons (pv 0) pa_nil)))
      (pss_one (ps_ret (pe_ix (ixL K) (pe_c G_all_ends hr (by decide) (pa_cons (pv 2) pa_nil)) (pe_c G_sure_edge hr (by decide) (pa_cons (pv 2) (pa_cons (pv 1) pa_nil))) (fun _ _ => rfl))))), ?_⟩
    refine ⟨_, rfl, v, d, S, rfl, hv, hl, vd, fun v' H1 s1 h1 => ?_⟩
    refine ⟨_, rfl, v', S, rfl, h1, vd, fun l ws H2 s2 hl2 hws => ?_⟩
    refine ⟨_, rfl, _, rfl, v', S, e, rfl, h1.sm s2, he, ?_⟩
    obtain ⟨p, ep⟩ := lt_get (l := endsM S) (i := e) (by unfold endsM; rw [List.length_map, edges_len vd]; exact he)
    have eg : (endsM S).getD e (0, 0) = p := by rw [List.getD_eq_getElem?_getD, ep] <;> rfl
    obtain ⟨x, hx, hi⟩ := hws.get (i := e) (d := prD p) (by rw [List.getElem?_map, ep] <;> rfl)
    rw [eg] at q
    exact ⟨l, ws, e, x, rfl, rfl, SqL.of hl2, atI_nat hx, q _ _ (s1.trans s2) hi⟩
def spSizes : Sp := fun vs H Q _ => ∃ (v : V) (d : Dt) (S : Skin), vs = [v] ∧ Is H v d ∧ SkL d S ∧ Valid S ∧ ∀ v' H', Same H H' → Is H' v' (.tup ((cornersM S).map fun r => Dt.int (r.length : Nat))) → Q v' H'
abbrev ns_corner_sizes : List Str := ["skin", "row"]
theorem sc_corner_sizes : FnScope ns_corner_sizes ["skin"] (defScope s_corner_sizes) := ⟨rfl, rfl, rfl, by decide +kernel, rfl, by decide +kernel, by decide +kernel⟩
theorem ok_corner_sizes (T : Tx K mg) : OkD P w K mg base 7 "corner_sizes" ["skin"] spSizes := by
  have G_corners_in : OkD P w K mg base 1 "corners_in" ["skin"] spCorn := ok_corners_in T
  have G_sure_skin : OkD P w K mg base 6 "sure_skin" ["skin"] spSure := ok_sure_skin T
  refine T.d_corner_sizes.ok sc_corner_sizes (fun vs H Q E h => ?_) (fun cdv A outer s H vs Q E hr h => ?_)
  · obtain ⟨v, d, S, rfl, _⟩ := h
    rfl
  · obtain ⟨v, d, S, rfl, hv, hl, vd, q⟩ := h
    have nn := sc_corner_sizes.nd
    have few := vd.sh.few
    -- slots: 0 skin, 1 row; calls: corners_in, sure_skin
    refine ⟨_, (pss_one (ps_ret (pe_callTy (cTup K) (by rfl) T.m_tuple bt_tuple (pa_cons (pe_lc (own := [("row", 1)]) (g := gName 1) (tt := tYes) rfl nn (piT K (pe_c G_corners_in hr (by decide) (pa_cons (pe_c G_sure_skin hr (by decide) (pa_cons (pv 0) pa_nil)) pa_nil))) (blkOk_by (N := ns_corner_sizes) (sc := defScope s_corner_sizes) (by decide +kernel)) (fun _ _ _ _ _ => (pg_name (i := 1) nn rfl (by first | exact .inl rfl | exact .inr rfl))) (fun _ _ _ _ _ => pts_nil) (fun _ _ _ _ _ => (pe_callB (cLen K) (by rfl) T.m_len bt_len (pa_cons (pv 1) pa_nil)))) pa_nil)))), ?_⟩
    refine ⟨_, rfl, v, d, S, rfl, hv, hl, vd, fun v' H1 s1 h1 => ⟨v', S, rfl, h1, vd.sh, fun cv H2 s2 hcv => ?_⟩⟩
    obtain ⟨ca, cus, rfl, hca, hcl, hcrow⟩ := row_at hcv
    have hrl := rows_len vd
    refine ⟨ca, rfl, ⟨cus, SqT.of hca⟩, fun D nD => ?_⟩
    refine lc_nm (walk_tup (K := K) (a := ca) (xs := cus)) ((cornersM S).map fun r => Dt.int (r.length : Nat)) (by rw [List.length_map, hcl]) (by omega) nD (fun H3 s3 => SqT.of (s3 _ _ hca)) (fun d hd => ?_) (fun x => rfl) (fun i x H3 H4 e C hi he s3 hY hC => ?_) (fun H3 ws s3 hD hws => ?_)
    · obtain ⟨b, _, rfl⟩ := List.mem_map.mp hd
      trivial
    · obtain ⟨rfl, hx⟩ := hY
      obtain ⟨r, er⟩ := lt_get (l := cornersM S) (i := i) (by omega)
      obtain ⟨b, rs, eb, hb, hrl, hcell⟩ := hcrow i r er
      obtain rfl : x = .ref b := Option.some.inj (hx.symm.trans eb)
      rw [List.getElem?_map, er] at he
      obtain rfl : Dt.int (r.length : Nat) = e := Option.some.inj he
      refine ⟨_, rfl, b, rs, rfl, .inr (SqT.of (s3 _ _ hb)), ?_⟩
      rw [hrl]
      exact hC _ _ (Same.refl _) (.int _)
    · exact ⟨D, ws, rfl, .inl ⟨SqL.of hD, fun r nr => q _ _ (((s1.trans s2).trans s3).trans (sm_upd nr)) (.tup upd_same (hws.sm (sm_upd nr)))⟩⟩
def spRound : Sp := fun vs H Q _ => ∃ (v : V) (d : Dt) (S : Skin) (k : Nat), vs = [v, .int k] ∧ Is H v d ∧ SkL d S ∧ Valid S ∧ k < (cornersM S).length ∧ ∀ v' H', Same H H' → Is H' v' (.tup ((roundM S ((cornersM S).getD k [])).map fun e : Nat => Dt.int e)) → Q v' H'
abbrev ns_edges_round : List Str := ["skin", "corner", "own", "row", "names", "field", "side"]
theorem sc_edges_round : FnScope ns_edges_round ["skin", "corner"] (defScope s_edges_round) := ⟨rfl, rfl, rfl, by decide +kernel, rfl, by decide +kernel, by decide +kernel⟩
theorem ok_edges_round (T : Tx K mg) : OkD P w K mg base 7 "edges_round" ["skin", "corner"] spRound := by
  have G_corners_in : OkD P w K mg base 1 "corners_in" ["skin"] spCorn := ok_corners_in T
  have G_sure_skin : OkD P w K mg base 6 "sure_skin" ["skin"] spSure := ok_sure_skin T
  have G_sure_corner : OkD P w K mg base 3 "sure_corner" ["skin", "corner"] spSCorner := ok_sure_corner T
  have G_numbers_in : OkD P w K mg base 2 "numbers_in" ["skin"] spNames := ok_numbers_in T
  refine T.d_edges_round.ok sc_edges_round (fun vs H Q E h => ?_) (fun cdv A outer s H vs Q E hr h => ?_)
  · obtain ⟨v, d, S, k, rfl, _⟩ := h
    rfl
  · obtain ⟨v, d, S, k, rfl, hv, hl, vd, hk, q⟩ := h
    have nn := sc_edges_round.nd
    have hu := hu_of hr
    have few := vd.sh.few
    -- slots: 0 skin, 1 corner, 2 own, 3 row, 4 names, 5 field, 6 side; calls: corners_in, numbers_in, sure_corner, sure_skin
    refine ⟨_, (pss_cons (ps_set (i := 2) nn rfl (by first | exact .inl rfl | exact .inr rfl) (pe_c G_sure_skin hr (by decide) (pa_cons (pv 0) pa_nil)))
      (pss_cons (ps_asg (pe_tup (pa_cons (pe_ix (ixT K) (pe_c G_corners_in hr (by decide) (pa_cons (pv 2) pa_nil)) (pe_c G_sure_corner hr (by decide) (pa_cons (pv 2) (pa_cons (pv 1) pa_nil))) (fun _ _ => rfl)) (pa_cons (pe_c G_numbers_in hr (by decide) (pa_cons (pv 2) pa_nil)) pa_nil))) (pgT K (n := 2) (pgs_cons (pg_name (i := 3) nn rfl (by first | exact .inl rfl | exact .inr rfl)) (pgs_cons (pg_name (i := 4) nn rfl (by first | exact .inl rfl | exact .inr rfl)) pgs_nil))))
      (pss_one (ps_ret (pe_callTy (cTup K) (by rfl) T.m_tuple bt_tuple (pa_cons (pe_lc (own := [("field", 5), ("side", 6)]) (tt := tYes) rfl nn (piT K (pv 3)) (blkOk_by (N := ns_edges_round) (sc := defScope s_edges_round) (by decide +kernel)) (fun _ _ _ _ _ => (pgT K (n := 2) (pgs_cons (pg_name (i := 5) nn rfl (by first | exact .inl rfl | exact .inr rfl)) (pgs_cons (pg_name (i := 6) nn rfl (by first | exact .inl rfl | exact .inr rfl)) pgs_nil)))) (fun _ _ _ _ _ => pts_nil) (fun _ _ _ _ _ => (pe_dget hu (pv 4) (pe_tup (pa_cons (pv 5) (pa_cons (pe_op op_mod (pe_op op_sub (pv 6) pe_int) pe_int) pa_nil))) (fun _ _ => rfl)))) pa_nil)))))), ?_⟩
    refine ⟨_, rfl, v, d, S, rfl, hv, hl, vd, fun v' H1 s1 h1 => ?_⟩
    refine ⟨_, rfl, v', S, rfl, h1, vd.sh, fun cv H2 s2 hcv => ?_⟩
    obtain ⟨ca, cus, rfl, hca, hcl, hcrow⟩ := row_at hcv
    refine ⟨_, rfl, _, rfl, v', S, k, rfl, h1.sm s2, vd.sh, hk, fun H3 s3 => ?_⟩
    obtain ⟨r, er⟩ := lt_get (l := cornersM S) hk
    obtain ⟨b, rs, eb, hb, hrl, hcell⟩ := hcrow k r er
    have eg : (cornersM S).getD k [] = r := by rw [List.getD_eq_getElem?_getD, er] <;> rfl
    rw [eg] at q
    obtain ⟨_, r48, _, rin⟩ := row_facts vd (List.mem_of_getElem? er)
    refine ⟨ca, cus, k, .ref b, rfl, rfl, SqT.of (s3 _ _ hca), atI_nat eb, ?_⟩
    refine ⟨_, rfl, v', S, rfl, (h1.sm s2).sm s3, vd.sh, fun dd H4 s4 hd4 => ?_⟩
    refine ⟨tup2_line, fun t nt => ?_⟩
    have s5 := sm_upd nt (o := .tup [.ref b, .ref dd])
    refine ⟨t, [_, _], rfl, SqT.of upd_same, rfl, _, _, rfl, _, _, rfl, rfl, ?_⟩
    have hb5 := s5 _ _ (s4 _ _ (s3 _ _ hb))
    refine ⟨_, rfl, b, rfl, ⟨rs, SqT.of hb5⟩, fun D nD => ?_⟩
    refine lc_ds (walk_tup (K := K) (a := b) (xs := rs)) ((roundM S r).map fun e : Nat => Dt.int e) (by unfold roundM; rw [List.length_map, List.length_map, hrl]) (by omega) nD (fun H6 s6 => SqT.of (s6 _ _ hb5)) (fun d hd => ?_)
      (fun i x H6 H7 e C Z hi he s6 hY hC => ?_) (fun H6 ws s6 hD hws => ?_)
    · obtain ⟨b, _, rfl⟩ := List.mem_map.mp hd
      trivial
    · obtain ⟨rfl, hx⟩ := hY
      obtain ⟨p, ep⟩ := lt_get (l := r) (i := i) (by omega)
      obtain ⟨c, ec, hc⟩ := hcell i p ep
      obtain rfl : x = .ref c := Option.some.inj (hx.symm.trans ec)
      unfold roundM at he
      rw [List.getElem?_map, List.getElem?_map, ep] at he
      obtain rfl : Dt.int (lookN (namesM S) (p.1, (p.2 + 3) % 4) : Nat) = e := Option.some.inj he
      have hc6 := s6 _ _ (s5 _ _ (s4 _ _ (s3 _ _ hc)))
      refine ⟨c, [_, _], rfl, SqT.of hc6, rfl, _, _, rfl, _, _, rfl, rfl, rfl, tyes (iteT ?_)⟩
      refine ⟨_, rfl, _, rfl, _, rfl, _, _, rfl, rfl, _, _, rfl, rfl, (show (0 : Int) < 4 by decide), tup2_line, fun p1 np1 => ?_⟩
      have s7 := sm_upd np1 (o := .tup [.int (p.1 : Nat), .int ((((p.2 : Nat) : Int) - 1) % 4)])
      have hin := rin p (List.mem_of_getElem? ep)
      exact ⟨dd, _, rfl, dget_n (p := (p.1, (p.2 + 3) % 4)) (s7 _ _ (s6 _ _ (s5 _ _ hd4))) (tup_eq (mod4 _)) (names_ints _) (names_has vd ⟨hin.1, Nat.mod_lt _ (by decide)⟩), hC _ _ s7 (.int _)⟩
    · exact ⟨D, ws, rfl, .inl ⟨SqL.of hD, fun r nr => q _ _ ((((((s1.trans s2).trans s3).trans s4).trans s5).trans s6).trans (sm_upd nr)) (.tup upd_same (hws.sm (sm_upd nr)))⟩⟩
end
end Hp5

set_option maxHeartbeats 4000000
/-! the law's own EDGES, numbers, CORNERS, ends -/
namespace Hp5
open PySem PySem.Spec PyProof.Rows L2
theorem allP_succ (i : Nat) : allP (i + 1) = allP i ++ (List.range 4).map fun b => (i, b) := by
  unfold allP
  rw [show 4 * (i + 1) = 4 * i + 4 by omega, List.range_add, List.map_append, List.map_map]
  congr 1
  refine List.map_congr_left fun b hb => ?_
  have := List.mem_range.mp hb
  show ((4 * i + b) / 4, (4 * i + b) % 4) = (i, b)
  rw [show (4 * i + b) / 4 = i by omega, show (4 * i + b) % 4 = b by omega]
theorem for_itP {J : It} {n : Nat} {G : Hp → Prop} {Y : Nat → Hp → V → Hp → Prop} (w : Walk J n G Y) {g : TG} {tb : TS} {D : Ends} {σ : L2.St} {H : Hp} (Post : L2.St → Hp → Prop) (hpost : ∀ σ H, Post σ H → D.nx σ H)
    (Pv : Nat → L2.St → Hp → Prop) (h0 : Pv 0 σ H) (hG : ∀ i σ H, i ≤ n → Pv i σ H → G H)
    (hs : (∀ σ H, Post σ H → D.nx σ H) → ∀ i x σ H H', i < n → Pv i σ H → Y i H x H' → g x σ H' fun σ2 H2 => tb { D with nx := Pv (i + 1), ct := Pv (i + 1), bk := D.nx } σ2 H2) (hd : ∀ σ H, Pv n σ H → Post σ H) :
    ∃ W : Nat → Nat → L2.St → Hp → Prop, (∃ m, W 0 m σ H) ∧ ∀ i m σ H, W i m σ H →
      (J.stop i H ∧ D.nx σ H) ∨ (J.go i H ∧ ∃ N : L2.St → Hp → Prop, (∀ σ' H', N σ' H' → ∃ m', m' < m ∧ W (i + 1) m' σ' H') ∧ ∀ x H', J.yld i H x H' → g x σ H' fun σ2 H2 => tb { D with nx := N, ct := N, bk := D.nx } σ2 H2) :=
  for_it w Pv h0 hG (hs hpost) fun σ H hp => hpost σ H (hd σ H hp)
/-! pairs in lists, compared -/
theorem dpa_prs {K : PySem.W.Frag} {H : Hp} : ∀ {xs : List V} {l : List Pr}, IsAll H xs (l.map prD) → DpAll K H xs (l.map prP)
  | _, [], h => by
    cases h
    exact .nil
  | _, p :: r, h => by
    cases h with
    | cons h1 h2 =>
      obtain ⟨a, rfl, e⟩ := h1.prE
      exact .cons (dp_pr e) (dpa_prs h2)
theorem prs_lay : ∀ l : List Pr, PyData.canLayAll0 (l.map prP) = true
  | [] => by simp [PyData.canLayAll0]
  | p :: r => by
    have h1 : (prP p).canLay0 = true := by simp [prP, PyData.canLay0, PyData.canLayAll0]
    have ih := prs_lay r
    simp [PyData.canLayAll0, h1, ih]
theorem prs_deep : ∀ l : List Pr, PyData.depthAll (l.map prP) ≤ 1
  | [] => by simp [PyData.depthAll]
  | p :: r => by
    have h2 : (prP p).depth = 1 := by simp [prP, PyData.depth, PyData.depthAll]
    have ih := prs_deep r
    simp [PyData.depthAll, h2, ih]
theorem prs_shaped (l : List Pr) : SeqAt.shaped (.list (l.map prP)) = true := by
  show ((PyData.list (l.map prP)).canLay0 && decide ((PyData.list (l.map prP)).depth ≤ 64)) = true
  have h1 : (PyData.list (l.map prP)).canLay0 = true := by simp [PyData.canLay0, prs_lay]
  have h2 : (PyData.list (l.map prP)).depth ≤ 64 := by
    have := prs_deep l
    simp only [PyData.depth]
    omega
  rw [h1, decide_eq_true h2] <;> rfl
theorem prs_eqv_nil (l : List Pr) : PyData.eqv (.list (l.map prP)) (.list []) = decide (l = []) := by
  cases l with
  | nil => simp [PyData.eqv, PyData.eqvAll]
  | cons p r => simp [PyData.eqv, PyData.eqvAll]
theorem prs_any (p : Pr) (l : List Pr) : ((l.map prP).any fun z => PyData.eqv z (prP p)) = decide (p ∈ l) := by
  rw [List.any_map, Bool.eq_iff_iff, List.any_eq_true, decide_eq_true_iff]
  constructor
  · rintro ⟨q, hq, e⟩
    have e2 : PyData.eqv (prP q) (prP p) = true := e
    rw [pr_eqv] at e2
    exact of_decide_eq_true e2 ▸ hq
  · intro h
    refine ⟨p, h, ?_⟩
    show PyData.eqv (prP p) (prP p) = true
    rw [pr_eqv, decide_eq_true rfl]
theorem plus3 (b : Nat) : ((b : Int) + 3) % 4 = (((b + 3) % 4 : Nat) : Int) := by omega
theorem fil_fs (l row : List Pr) : (l.map fun q => if q ∉ row then some (prD q) else none).filterMap id = (l.filter fun q => decide (q ∉ row)).map prD := by
  induction l with
  | nil => rfl
  | cons q r ih =>
    rw [List.map_cons]
    by_cases h : q ∉ row
    · rw [if_pos h, List.filter_cons_of_pos (by simpa using h), List.map_cons, ← ih] <;> rfl
    · rw [if_neg h, List.filter_cons_of_neg (by simpa using h), ← ih] <;> rfl
section
variable {P : Program} {w : World} {K : PySem.W.Frag} {mg : Str → Option Value} {base : Heap}
abbrev ns_l_edges : List Str := ["_law_hide", "_law_found", "_law_f", "_law_a"]
theorem sc_l_edges : FnScope ns_l_edges ["_law_hide"] (defScope s_l_edges) := ⟨rfl, rfl, rfl, by decide +kernel, rfl, by decide +kernel, by decide +kernel⟩
theorem ok_l_edges (T : Tx K mg) : OkD P w K mg base 1 "_law_edges" ["_law_hide"] spEdges := by
  refine T.d_l_edges.ok sc_l_edges (fun vs H Q E h => ?_) (fun cdv A outer s H vs Q E hr h => ?_)
  · obtain ⟨v, S, rfl, _⟩ := h
    rfl
  · obtain ⟨v, S, rfl, hv, sh, q⟩ := h
    obtain ⟨sa, us, rfl, hsa, hul, hrow⟩ := row_at hv
    have nn := sc_l_edges.nd
    have few := sh.few
    -- slots: 0 _law_hide, 1 _law_found, 2 _law_f, 3 _law_a; calls:
    refine ⟨_, (pss_cons (ps_set (i := 1) nn rfl (by first | exact .inl rfl | exact .inr rfl) (pe_lst pa_nil))
      (pss_cons (ps_for PassesOwn.never rfl (pi_range1 (by rfl) T.m_range (pa_cons (pe_callB (cLen K) (by rfl) T.m_len bt_len (pa_cons (pv 0) pa_nil)) pa_nil)) (pg_name (i := 2) nn rfl (by first | exact .inl rfl | exact .inr rfl)) (pss_one (ps_set (i := 1) nn rfl (by first | exact .inl rfl | exact .inr rfl) (pe_op op_cat (pv 1) (pe_lc (own := [("_law_a", 3)]) (g := gName 3) rfl nn (pi_range1 (by rfl) T.m_range (pa_cons pe_int pa_nil)) (blkOk_by (N := ns_l_edges) (sc := defScope s_l_edges) (by decide +kernel)) (fun _ _ _ _ _ => (pg_name (i := 3) nn rfl (by first | exact .inl rfl | exact .inr rfl))) (fun _ _ _ _ _ => (pts_one (pt_cmpR (oLtT K hr.units0) (pe_tup (pa_cons (pv 2) (pa_cons (pv 3) pa_nil))) (pe_ix (ixT K) (pe_ix (ixT K) (pv 0) (pv 2) (fun _ _ => rfl)) (pv 3) (fun _ _ => rfl)) (nomark _)))) (fun _ _ _ _ _ => (pe_tup (pa_cons (pv 2) (pa_cons (pv 3) pa_nil)))))))))
      (pss_one (ps_ret (pv 1))))), ?_⟩
    refine ⟨Nat.zero_le _, fun l0 nl0 => ?_⟩
    have s0 : Same H (upd H l0 (.lst [])) := sm_upd nl0
    refine ⟨_, rfl, sa, us, rfl, .inr (SqT.of (s0 _ _ hsa)), (us.length : Int), rfl, by omega, by omega, ?_⟩
    rw [Int.toNat_natCast]
    refine for_it (walk_rng (n := us.length)) (fun i σ H1 => ∃ l ws y2 y3, σ = [some (.ref sa), some (.ref l), y2, y3] ∧ Same H H1 ∧ H1 l = some (.lst ws) ∧ IsAll H1 ws ((edgesTo S i).map prD)) ⟨_, _, _, _, rfl, s0, upd_same, .nil⟩
      (fun _ _ _ _ _ => trivial) (fun i x σ H1 H2 hi hp hY => ?_) (fun σ H1 hp => ?_)
    · obtain ⟨l, ws, y2, y3, rfl, s1, hl, hws⟩ := hp
      obtain ⟨rfl, rfl⟩ := hY
      refine ⟨_, rfl, 4, rfl, by decide, by decide, fun D nD => ?_⟩
      obtain ⟨r, er⟩ := lt_get (l := S) (i := i) (by omega)
      obtain ⟨b, rs, eb, hb, hrl, hcell⟩ := hrow i r er
      obtain ⟨h4, hin⟩ := sh.row r (List.mem_of_getElem? er)
      refine lc_if (walk_rng (n := 4)) ((List.range 4).map fun j => if ltP (i, j) (cr S i j) = true then some (prD (i, j)) else none) (by rw [List.length_map, List.length_range]) (by omega) nD
        (fun _ _ => trivial) (fun d hd => ?_) (fun j x H3 H4 o C Z hj ho s3 hY hC hZ => ?_) (fun H3 zs s3 hD hzs => ?_)
      · obtain ⟨j, _, e⟩ := List.mem_map.mp hd
        split at e
        · cases e
          exact tu_pr _
        · cases e
      · obtain ⟨rfl, rfl⟩ := hY
        obtain ⟨p, ep⟩ := lt_get (l := r) (i := j) (by omega)
        obtain ⟨c, ec, hc⟩ := hcell j p ep
        have ecr : cr S i j = p := cr_get er ep
        have eo : o = if ltP (i, j) p = true then some (prD (i, j)) else none := by
          rw [List.getElem?_map, List.getElem?_range hj] at ho
          rw [← ecr]
          exact (Option.some.inj ho).symm
        refine ⟨rfl, ?_⟩
        refine ⟨_, rfl, _, rfl, tup2_line, fun p1 np1 => ?_⟩
        have s5 := sm_upd np1 (o := .tup [.int (i : Nat), .int (j : Nat)])
        have s6 := (s1.trans s3).trans s5
        refine ⟨_, rfl, _, rfl, sa, us, (i : Nat), .ref b, rfl, rfl, SqT.of (s6 _ _ hsa), atI_nat eb, ?_⟩
        refine ⟨_, rfl, b, rs, (j : Nat), .ref c, rfl, rfl, SqT.of (s6 _ _ hb), atI_nat ec, ?_⟩
        refine ⟨p1, c, [(i : Int), (j : Int)], [(p.1 : Int), (p.2 : Int)], rfl, rfl, SqT.of upd_same, SqT.of (s6 _ _ hc), _, rfl, ?_⟩
        rw [lexLt_pr (i, j) p]
        refine ite2 (fun c1 => ?_) (fun c1 => ?_)
        · rw [if_pos c1] at eo
          refine ⟨_, rfl, _, rfl, tup2_line, fun p2 np2 => ?_⟩
          exact hC _ eo _ _ (s5.trans (sm_upd np2)) (prD_is upd_same)
        · rw [if_neg c1] at eo
          exact hZ eo _ s5
      · rw [rowE_fs] at hzs
        have l1 := hws.length
        have l2 := hzs.length
        rw [List.length_map] at l1 l2
        have l3 := edgesTo_len S i
        have l4 := rowE_len S i
        refine ⟨l, D, ws, zs, rfl, rfl, s3 _ _ hl, hD, Nat.le_of_lt (small1000 (by omega)), fun p np => ?_⟩
        refine ⟨p, ws ++ zs, _, _, rfl, (s1.trans s3).trans (sm_upd np), upd_same, ?_⟩
        rw [edgesTo_succ, List.map_append]
        exact ((hws.sm s3).sm (sm_upd np)).append (hzs.sm (sm_upd np))
    · obtain ⟨l, ws, y2, y3, rfl, s1, hl, hws⟩ := hp
      rw [hul] at hws
      exact ⟨_, rfl, q l ws H1 s1 hl hws⟩
abbrev ns_l_names : List Str := ["_law_hide", "_law_found", "_law_k", "_law_own"]
theorem sc_l_names : FnScope ns_l_names ["_law_hide"] (defScope s_l_names) := ⟨rfl, rfl, rfl, by decide +kernel, rfl, by decide +kernel, by decide +kernel⟩
theorem ok_l_names (T : Tx K mg) : OkD P w K mg base 2 "_law_names" ["_law_hide"] spNames := by
  have G_l_edges : OkD P w K mg base 1 "_law_edges" ["_law_hide"] spEdges := ok_l_edges T
  refine T.d_l_names.ok sc_l_names (fun vs H Q E h => ?_) (fun cdv A outer s H vs Q E hr h => ?_)
  · obtain ⟨v, S, rfl, _⟩ := h
    rfl
  · obtain ⟨v, S, rfl, hv, sh, q⟩ := h
    have hv0 := hv
    obtain ⟨sa, us, rfl, hsa, hul, hrow⟩ := row_at hv
    have nn := sc_l_names.nd
    have hu := hu_of hr
    have few := sh.few
    -- slots: 0 _law_hide, 1 _law_found, 2 _law_k, 3 _law_own; calls: _law_edges
    refine ⟨_, (pss_cons (ps_set (i := 1) nn rfl (by first | exact .inl rfl | exact .inr rfl) pe_dnewT)
      (pss_cons (ps_for PassesOwn.never rfl (piEL K T.m_enumerate (pa_cons (pe_c G_l_edges hr (by decide) (pa_cons (pv 0) pa_nil)) pa_nil)) (pgT K (n := 2) (pgs_cons (pg_name (i := 2) nn rfl (by first | exact .inl rfl | exact .inr rfl)) (pgs_cons (pg_name (i := 3) nn rfl (by first | exact .inl rfl | exact .inr rfl)) pgs_nil))) (pss_cons (ps_dput hu (pv 1) (pv 3) (pv 2) rfl)
      (pss_one (ps_dput hu (pv 1) (pe_ix (ixT K) (pe_ix (ixT K) (pv 0) (pe_ix (ixT K) (pv 3) pe_int (fun _ _ => rfl)) (fun _ _ => rfl)) (pe_ix (ixT K) (pv 3) pe_int (fun _ _ => rfl)) (fun _ _ => rfl)) (pv 2) rfl))))
      (pss_one (ps_ret (pv 1))))), ?_⟩
    intro d nd
    have s0 : Same H (upd H d (.dT [])) := sm_upd nd
    refine ⟨_, rfl, _, S, rfl, hv0.sm s0, sh, fun l ws H1 s1 hl hws => ?_⟩
    have hd1 := s1 _ _ upd_same
    have sH1 := s0.trans s1
    refine ⟨l, ws, rfl, SqL.of hl, ?_⟩
    have hwl := hws.length
    rw [List.length_map] at hwl
    have hel : (edgesM S).length ≤ 48 := by
      have := edgesTo_len S S.length
      unfold edgesM
      omega
    refine for_it (walk_enum (K := K) (a := l) (xs := ws)) (fun i σ H2 => ∃ y2 y3, σ = [some (.ref sa), some (.ref d), y2, y3] ∧ Same H H2 ∧ Tps H1 H2 ∧ H2 l = some (.lst ws) ∧ H2 d = some (.dT (kd (namesTo S i))))
      ⟨_, _, rfl, sH1, Tps.of (Same.refl _), hl, hd1⟩ (fun i σ H2 hi hp => ?_) (fun i x σ H2 H3 hi hp hY => ?_) (fun σ H2 hp => ?_)
    · obtain ⟨_, _, _, _, _, hl2, _⟩ := hp
      exact SqL.of hl2
    · obtain ⟨y2, y3, rfl, s2, tp, hl2, hd2⟩ := hp
      obtain ⟨t, xi, xe, rfl, nt, rfl, e1, e2⟩ := hY
      cases e1
      obtain ⟨e, he⟩ := lt_get (l := edgesM S) (i := i) (by omega)
      obtain ⟨xe', hxe, hie⟩ := hws.get (i := i) (d := prD e) (by rw [List.getElem?_map, he] <;> rfl)
      obtain rfl : xe = xe' := Option.some.inj (e2.symm.trans hxe)
      obtain ⟨c, rfl, hc⟩ := hie.prE
      have eg : (edgesM S).getD i (0, 0) = e := by rw [List.getD_eq_getElem?_getD, he] <;> rfl
      have heR := (mem_edges.mp (List.mem_of_getElem? he)).1
      have hc2 := tp _ _ hc
      have s3 := s2.trans (sm_upd nt (o := .tup [.int (i : Nat), .ref c]))
      have hd3 := sm_upd nt (o := .tup [.int (i : Nat), .ref c]) _ _ hd2
      have hc3 := sm_upd nt (o := .tup [.int (i : Nat), .ref c]) _ _ hc2
      have hlen := namesTo_len S i
      refine ⟨t, [_, _], rfl, SqT.of upd_same, rfl, _, _, rfl, _, _, rfl, rfl, ?_⟩
      refine ⟨_, rfl, _, rfl, _, rfl, d, _, rfl, DPut.t (k := pk e) hd3 hc3 (by rw [kd_len]; exact small1000 (by omega)), ?_⟩
      rw [putK_kd]
      have tp4 : Tps (upd H2 t (.tup [.int (i : Nat), .ref c])) (upd (upd H2 t (.tup [.int (i : Nat), .ref c])) d (.dT (kd (putK (namesTo S i) e (.int (i : Nat)))))) := Tps.updT hd3
      have s5 : Same H (upd (upd H2 t (.tup [.int (i : Nat), .ref c])) d (.dT (kd (putK (namesTo S i) e (.int (i : Nat)))))) := sm_upd2 s3 nd
      have hc5 := tp4 _ _ hc3
      obtain ⟨r, er, er2⟩ := sh.at heR.1 heR.2
      obtain ⟨b, rs, eb, hb, _, hcell⟩ := hrow e.1 r er
      obtain ⟨c2, ec2, hcc⟩ := hcell e.2 _ er2
      refine ⟨_, rfl, _, rfl, _, rfl, _, rfl, c, _, 0, _, rfl, rfl, SqT.of hc5, atI_nat (j := 0) rfl, sa, us, (e.1 : Nat), .ref b, rfl, rfl, SqT.of (s5 _ _ hsa), atI_nat eb, ?_⟩
      refine ⟨_, rfl, c, _, 1, _, rfl, rfl, SqT.of hc5, atI_nat (j := 1) rfl, b, rs, (e.2 : Nat), .ref c2, rfl, rfl, SqT.of (s5 _ _ hb), atI_nat ec2, ?_⟩
      have hlen2 := putK_len (namesTo S i) e (.int (i : Nat))
      refine ⟨d, _, rfl, DPut.t (k := pk (cr S e.1 e.2)) upd_same (s5 _ _ hcc) (by rw [kd_len]; exact small1000 (by omega)), ?_⟩
      rw [putK_kd]
      have s6 := sm_upd2 s5 nd (o := .dT (kd (putK (putK (namesTo S i) e (.int (i : Nat))) (cr S e.1 e.2) (.int (i : Nat)))))
      have ld : l ≠ d := ne_of hl2 hd2 (by intro z; cases z)
      have tp6 := (tp.trans (Tps.of (sm_upd nt (o := .tup [.int (i : Nat), .ref c])))).trans tp4
      refine ⟨_, _, rfl, s6, tp6.trans (Tps.updT upd_same), ?_, ?_⟩
      · rw [upd_ne ld, upd_ne ld]
        exact sm_upd nt _ _ hl2
      · rw [upd_same]
        show _ = some (HO.dT (kd (putK (putK (namesTo S i) ((edgesM S).getD i (0, 0)) _) (cr S ((edgesM S).getD i (0, 0)).1 ((edgesM S).getD i (0, 0)).2) _)))
        rw [eg]
    · obtain ⟨y2, y3, rfl, s2, tp, hl2, hd2⟩ := hp
      rw [hwl] at hd2
      exact ⟨_, rfl, q d H2 s2 hd2⟩
end
end Hp5

set_option maxHeartbeats 4000000
namespace Hp5
open PySem PySem.Spec PyProof.Rows L2
theorem room65 {k : Nat} {A : Around} (r : Room k A) : A.units + 65 < cLine := by
  have := r.un
  omega
theorem room8 {k : Nat} {A : Around} (r : Room k A) : A.units + 8 < cLine := by
  have := r.un
  omega
section
variable {P : Program} {w : World} {K : PySem.W.Frag} {mg : Str → Option Value} {base : Heap}
def spLCorners : Sp := fun vs H Q _ => ∃ (v : V) (S : Skin), vs = [v] ∧ Is H v (skD S) ∧ Valid S ∧ ∀ a ws H', Same H H' → H' a = some (.lst ws) → IsAll H' ws ((cornersL S).map rowD) → Q (.ref a) H'
abbrev ns_l_corners : List Str := ["_law_hide", "_law_left_so", "_law_found", "_law_f", "_law_row_so", "_law_lap", "_law_b", "_law_later_so", "_law_own"]
theorem sc_l_corners : FnScope ns_l_corners ["_law_hide"] (defScope s_l_corners) := ⟨rfl, rfl, rfl, by decide +kernel, rfl, by decide +kernel, by decide +kernel⟩
theorem ok_l_corners (T : Tx K mg) : OkD P w K mg base 1 "_law_corners" ["_law_hide"] spLCorners := by
  refine T.d_l_corners.ok sc_l_corners (fun vs H Q E h => ?_) (fun cdv A outer s H vs Q E hr h => ?_)
  · obtain ⟨v, S, rfl, _⟩ := h
    rfl
  · obtain ⟨v, S, rfl, hv, vd, q⟩ := h
    obtain ⟨sa, us, rfl, hsa, hul, hrow⟩ := row_at hv
    have nn := sc_l_corners.nd
    have sh := vd.sh
    have few := sh.few
    have hu64 := hr.units
    have hu65 := room65 hr
    -- slots: 0 _law_hide, 1 _law_left_so, 2 _law_found, 3 _law_f, 4 _law_row_so, 5 _law_lap, 6 _law_b, 7 _law_later_so, 8 _law_own; calls:
    refine ⟨_, (pss_cons (ps_par (i := 1) (j := 2) rfl nn rfl rfl (by decide) rfl rfl (pa_cons (pe_lst pa_nil) (pa_cons (pe_lst pa_nil) pa_nil)) (by rfl))
      (pss_cons (ps_for PassesOwn.never rfl (pi_range1 (by rfl) T.m_range (pa_cons (pe_callB (cLen K) (by rfl) T.m_len bt_len (pa_cons (pv 0) pa_nil)) pa_nil)) (pg_name (i := 3) nn rfl (by first | exact .inl rfl | exact .inr rfl)) (pss_one (ps_set (i := 1) nn rfl (by first | exact .inl rfl | exact .inr rfl) (pe_op op_cat (pv 1) (pe_lc (own := [("_law_b", 6)]) (g := gName 6) (tt := tYes) rfl nn (pi_range1 (by rfl) T.m_range (pa_cons pe_int pa_nil)) (blkOk_by (N := ns_l_corners) (sc := defScope s_l_corners) (by decide +kernel)) (fun _ _ _ _ _ => (pg_name (i := 6) nn rfl (by first | exact .inl rfl | exact .inr rfl))) (fun _ _ _ _ _ => pts_nil) (fun _ _ _ _ _ => (pe_tup (pa_cons (pv 3) (pa_cons (pv 6) pa_nil)))))))))
      (pss_cons (ps_while PassesOwn.never (pt_cmpR (oNeD K hu64) (pv 1) (pe_lst pa_nil) (nomark _)) (pss_cons (ps_set (i := 4) nn rfl (by first | exact .inl rfl | exact .inr rfl) (pe_lst (pa_cons (pe_ix (ixL K) (pv 1) pe_int (fun _ _ => rfl)) pa_nil)))
      (pss_cons (ps_for PassesOwn.never rfl (pi_range1 (by rfl) T.m_range (pa_cons (pe_op op_mul pe_int (pe_callB (cLen K) (by rfl) T.m_len bt_len (pa_cons (pv 0) pa_nil))) pa_nil)) (pg_name (i := 5) nn rfl (by first | exact .inl rfl | exact .inr rfl)) (pss_cons (ps_asg (pe_ix (ixL K) (pv 4) (pe_un un_neg pe_int) (fun _ _ => rfl)) (pgT K (n := 2) (pgs_cons (pg_name (i := 3) nn rfl (by first | exact .inl rfl | exact .inr rfl)) (pgs_cons (pg_name (i := 6) nn rfl (by first | exact .inl rfl | exact .inr rfl)) pgs_nil))))
      (pss_cons (ps_set (i := 7) nn rfl (by first | exact .inl rfl | exact .inr rfl) (pe_ix (ixT K) (pe_ix (ixT K) (pv 0) (pv 3) (fun _ _ => rfl)) (pe_op op_mod (pe_callTy call_int1 (by rfl) T.m_int bt_int (pa_cons (pe_op op_add (pv 6) pe_int) pa_nil)) pe_int) (fun _ _ => rfl)))
      (pss_cons (ps_if (pt_cmpR (oEqD K hu64) (pv 7) (pe_ix (ixL K) (pv 4) pe_int (fun _ _ => rfl)) (nomark _)) (pss_one ps_break) pss_nil)
      (pss_one (ps_set (i := 4) nn rfl (by first | exact .inl rfl | exact .inr rfl) (pe_op op_cat (pv 4) (pe_lst (pa_cons (pv 7) pa_nil)))))))))
      (pss_cons (ps_expr (pe_bm PySem.F.plainAttrs_list PySem.F.slot_list_append PySem.F.type_list_append mt_append (pv 2) (pa_cons (pe_callTy (cTup K) (by rfl) T.m_tuple bt_tuple (pa_cons (pv 4) pa_nil)) pa_nil)))
      (pss_one (ps_setLc (i := 1) (own := [("_law_own", 8)]) (g := gName 8) rfl nn rfl rfl (sw_true rfl rfl rfl (by decide +kernel)) (piL K (pv 1)) (blkOk_by (N := ns_l_corners) (sc := defScope s_l_corners) (by decide +kernel)) (fun _ _ _ _ _ => (pg_name (i := 8) nn rfl (by first | exact .inl rfl | exact .inr rfl))) (fun _ _ _ _ _ => (pts_one (pt_cmpR (oNotInD K hu65) (pv 8) (pv 4) (by rfl)))) (fun _ _ _ _ _ => (pv 8))))))))
      (pss_one (ps_ret (pv 2)))))), ?_⟩
    refine ⟨Nat.zero_le _, fun l0 nl0 => ?_⟩
    refine ⟨Nat.zero_le _, fun fo nfo => ?_⟩
    refine ⟨_, _, rfl, ?_⟩
    have sA : Same H (upd H l0 (.lst [])) := sm_upd nl0
    have nfo0 : H fo = none := sA.free nfo
    have s0 := sA.trans (sm_upd nfo (o := .lst []))
    have hlf : l0 ≠ fo := ne_of_none upd_same nfo
    refine ⟨_, rfl, sa, us, rfl, .inr (SqT.of (s0 _ _ hsa)), (us.length : Int), rfl, by omega, by omega, ?_⟩
    rw [Int.toNat_natCast]
    refine for_it (walk_rng (n := us.length)) (fun i σ H1 => ∃ l ls y3 y4 y5 y6 y7 y8, σ = [some (.ref sa), some (.ref l), some (.ref fo), y3, y4, y5, y6, y7, y8] ∧ Same H H1 ∧ H1 l = some (.lst ls) ∧ l ≠ fo ∧ H1 fo = some (.lst []) ∧ IsAll H1 ls ((allP i).map prD))
      ⟨l0, [], _, _, _, _, _, _, rfl, s0, by rw [upd_ne hlf]; exact upd_same, hlf, upd_same, .nil⟩ (fun _ _ _ _ _ => trivial) (fun i x σ H1 H2 hi hp hY => ?_) (fun σ H1 hp => ?_)
    · obtain ⟨l, ls, y3, y4, y5, y6, y7, y8, rfl, s1, hl, hlf, hfo, hls⟩ := hp
      obtain ⟨rfl, rfl⟩ := hY
      refine ⟨_, rfl, 4, rfl, by decide, by decide, fun D nD => ?_⟩
      refine lc_nm (walk_rng (n := 4)) (((List.range 4).map fun b => ((i, b) : Pr)).map prD) rfl (by decide) nD (fun _ _ => trivial) (fun d hd => tuAll_iff.mp (tu_prs _) d hd) (fun x => rfl) (fun b x H3 H4 e C hb he s4 hY hC => ?_) (fun H3 zs s3 hD hzs => ?_)
      · obtain ⟨rfl, rfl⟩ := hY
        rw [List.getElem?_map, List.getElem?_map, List.getElem?_range hb] at he
        obtain rfl : prD (i, b) = e := Option.some.inj he
        exact ⟨_, rfl, _, rfl, tup2_line, fun p1 np1 => hC _ _ (sm_upd np1) (prD_is upd_same)⟩
      · have l1 := hls.length
        have l2 := hzs.length
        rw [List.length_map, allP_len] at l1
        rw [List.length_map, List.length_map, List.length_range] at l2
        refine ⟨l, D, ls, zs, rfl, rfl, s3 _ _ hl, hD, Nat.le_of_lt (small1000 (by omega)), fun p np => ?_⟩
        have hfo3 := s3 _ _ hfo
        refine ⟨p, ls ++ zs, _, _, _, _, _, _, rfl, (s1.trans s3).trans (sm_upd np), upd_same, (ne_of_none hfo3 np).symm, sm_upd np _ _ hfo3, ?_⟩
        rw [allP_succ, List.map_append]
        exact ((hls.sm s3).sm (sm_upd np)).append (hzs.sm (sm_upd np))
    · obtain ⟨l, ls, y3, y4, y5, y6, y7, y8, rfl, s1, hl, hlf, hfo, hls⟩ := hp
      rw [hul] at hls
      refine ⟨fun m σ H3 => ∃ l ls ws L R y3 y4 y5 y6 y7 y8, σ = [some (.ref sa), some (.ref l), some (.ref fo), y3, y4, y5, y6, y7, y8] ∧ Same H H3 ∧ H3 l = some (.lst ls) ∧ l ≠ fo ∧ H3 fo = some (.lst ws) ∧ IsAll H3 ls (L.map prD) ∧ IsAll H3 ws (R.map rowD) ∧
          (∀ p ∈ L, InR S.length p) ∧ L.length ≤ m ∧ R.length + m ≤ 4 * S.length ∧ R ++ cl S m L = cornersL S,
        ⟨4 * S.length, l, ls, [], allP S.length, [], _, _, _, _, _, _, rfl, s1, hl, hlf, hfo, hls, .nil, fun p hp => mem_allP.mp hp, by rw [allP_len]; exact Nat.le_refl _, by show 0 + _ ≤ _; omega, rfl⟩, ?_⟩
      rintro m σ H3 ⟨l, ls, ws, L, R, y3, y4, y5, y6, y7, y8, rfl, s3, hl, hlf, hfo, hls, hws, hin, hm, hRm, hcl⟩
      have hlsl := hls.length
      have hwsl := hws.length
      rw [List.length_map] at hlsl hwsl
      refine ⟨_, rfl, Nat.zero_le _, fun e0 ne0 => ?_⟩
      have se : Same H3 (upd H3 e0 (.lst [])) := sm_upd ne0
      refine ⟨.list (L.map prP), .list [], .lst (SqL.of (se _ _ hl)) (dpa_prs (hls.sm se)), .lst (SqL.of upd_same) .nil, prs_shaped L, prs_shaped [], _, rfl, ?_⟩
      rw [prs_eqv_nil]
      refine ite2 (fun c => ?_) (fun c => ?_)
      · have hne : L ≠ [] := by simpa using c
        obtain ⟨p, L', rfl⟩ := List.exists_cons_of_ne_nil hne
        have hlen : L'.length + 1 ≤ m := hm
        obtain ⟨m', rfl⟩ : ∃ m', m = m' + 1 := ⟨m - 1, by omega⟩
        have hp : InR S.length p := hin p List.mem_cons_self
        have hcl2 : (R ++ [orb S p]) ++ cl S m' ((p :: L').filter fun q => decide (q ∉ orb S p)) = cornersL S := by
          rw [List.append_assoc, ← hcl] <;> rfl
        refine ⟨fun σ H4 => ∃ l ls ws L R y3 y4 y5 y6 y7 y8, σ = [some (.ref sa), some (.ref l), some (.ref fo), y3, y4, y5, y6, y7, y8] ∧ Same H H4 ∧ H4 l = some (.lst ls) ∧ l ≠ fo ∧ H4 fo = some (.lst ws) ∧ IsAll H4 ls (L.map prD) ∧ IsAll H4 ws (R.map rowD) ∧
          (∀ p ∈ L, InR S.length p) ∧ L.length ≤ m' ∧ R.length + m' ≤ 4 * S.length ∧ R ++ cl S m' L = cornersL S, fun σ' H' hN => ⟨m', Nat.lt_succ_self _, hN⟩, ?_⟩
        -- row = [left[0]]
        have hlse := hls.sm se
        obtain ⟨x0, hx0, hi0⟩ := hlse.get (i := 0) (d := prD p) rfl
        obtain ⟨c0, rfl, hc0⟩ := hi0.prE
        refine ⟨_, rfl, l, ls, 0, .ref c0, rfl, rfl, SqL.of (se _ _ hl), atI_nat (j := 0) hx0, (show 1 ≤ sizeLine by decide), fun ro nro => ?_⟩
        have s4 := se.trans (sm_upd nro (o := .lst [.ref c0]))
        have sH4 := s3.trans s4
        -- for lap in range(4 * len(hide))
        refine ⟨_, rfl, sa, us, rfl, .inr (SqT.of (sH4 _ _ hsa)), _, _, rfl, rfl, .inl ⟨by decide, by decide⟩, ((4 * us.length : Nat) : Int), by rw [Int.natCast_mul] <;> rfl, by omega, by omega, ?_⟩
        rw [Int.toNat_natCast]
        refine for_itP (walk_rng (n := 4 * us.length)) (fun σ H5 => ∃ ro rs y3 y5 y6 y7 y8, σ = [some (.ref sa), some (.ref l), some (.ref fo), y3, some (.ref ro), y5, y6, y7, y8] ∧ Same H3 H5 ∧ H5 ro = some (.lst rs) ∧ IsAll H5 rs ((orb S p).map prD) ∧ ro ≠ fo) (fun σ H5 hpost => ?_)
          (fun j σ H5 => ∃ ro rs row c q y3 y5 y6 y7 y8, σ = [some (.ref sa), some (.ref l), some (.ref fo), y3, some (.ref ro), y5, y6, y7, y8] ∧ Same H3 H5 ∧ H5 ro = some (.lst (rs ++ [.ref c])) ∧ IsAll H5 rs (row.map prD) ∧ H5 c = some (.tup [.int q.1, .int q.2]) ∧ ro ≠ fo ∧ row.length = j ∧ InR S.length q ∧
            (rs ++ [V.ref c])[0]? = some (.ref c0) ∧ (row ++ [q]).headD (0, 0) = p ∧ H5 c0 = some (.tup [.int p.1, .int p.2]) ∧ lw S (4 * S.length - j) (row ++ [q]) = orb S p)
          ⟨ro, [], [], c0, p, _, _, _, _, _, rfl, s4, upd_same, .nil, sm_upd nro _ _ hc0, (ne_of_none (se _ _ hfo) nro).symm, rfl, hp, rfl, rfl, sm_upd nro _ _ hc0, rfl⟩ (fun _ _ _ _ _ => trivial) (fun hpost j x σ H5 H6 hj hpv hY => ?_) (fun σ H5 hpv => ?_)
        · -- the row is whole: found.append(tuple(row)), what is left
          obtain ⟨ro, rs, y3, y5, y6, y7, y8, rfl, s5, hro, hrs, hrf⟩ := hpost
          have hrsl := hrs.length
          rw [List.length_map] at hrsl
          have horb := few_pairs (orb_nd vd hp) fun q hq => orb_in vd hp hq
          have hfo5 := s5 _ _ hfo
          refine ⟨_, rfl, .inl ⟨rfl, _, SqL.of hfo5⟩, _, rfl, ro, rs, rfl, .inl ⟨SqL.of hro, fun t nt => ?_⟩⟩
          have s6 := sm_upd nt (o := .tup rs)
          have hfo6 := s6 _ _ hfo5
          refine ⟨fo, _, _, rfl, rfl, hfo6, small1000 (by omega), ?_⟩
          have tp7 : Tps (upd H5 t (.tup rs)) (upd (upd H5 t (.tup rs)) fo (.lst (ws ++ [.ref t]))) := Tps.upd hfo6
          have sH7 : Same H (upd (upd H5 t (.tup rs)) fo (.lst (ws ++ [.ref t]))) := sm_upd2 ((s3.trans s5).trans s6) nfo0
          have hl7 : (upd (upd H5 t (.tup rs)) fo (.lst (ws ++ [.ref t]))) l = some (.lst ls) := by rw [upd_ne hlf]; exact s6 _ _ (s5 _ _ hl)
          have hr7 : (upd (upd H5 t (.tup rs)) fo (.lst (ws ++ [.ref t]))) ro = some (.lst rs) := by rw [upd_ne hrf]; exact s6 _ _ hro
          have hls7 := IsAll.tp ((Tps.of (s5.trans s6)).trans tp7) _ _ (tu_prs _) hls
          have hrs7 := IsAll.tp ((Tps.of s6).trans tp7) _ _ (tu_prs _) hrs
          have hws7 : IsAll (upd (upd H5 t (.tup rs)) fo (.lst (ws ++ [.ref t]))) (ws ++ [.ref t]) ((R ++ [orb S p]).map rowD) := by
            rw [List.map_append]
            exact (IsAll.tp ((Tps.of (s5.trans s6)).trans tp7) _ _ (tu_rows _) hws).append (.cons (.tup (tp7 _ _ upd_same) hrs7) .nil)
          refine ⟨_, rfl, l, rfl, ⟨ls, SqL.of hl7⟩, fun D nD => ?_⟩
          refine lc_if (walk_list (K := K) (a := l) (xs := ls)) ((p :: L').map fun q => if q ∉ orb S p then some (prD q) else none) (by rw [List.length_map, hlsl]) (by rw [List.length_cons] at hlsl; omega) nD (fun H8 s8 => SqL.of (s8 _ _ hl7)) (fun d hd => ?_)
            (fun k x H8 H9 o C Z hk ho s8 hY hC hZ => ?_) (fun H8 zs s8 hD hzs => ?_)
          · obtain ⟨q, _, e⟩ := List.mem_map.mp hd
            split at e
            · cases e
              exact tu_pr _
            · cases e
          · obtain ⟨rfl, hx⟩ := hY
            obtain ⟨q, eq⟩ := lt_get (l := p :: L') (i := k) (by omega)
            obtain ⟨x', hx', hi'⟩ := hls7.get (i := k) (d := prD q) (by rw [List.getElem?_map, eq] <;> rfl)
            obtain rfl : x = x' := Option.some.inj (hx.symm.trans hx')
            obtain ⟨c1, rfl, hc1⟩ := hi'.prE
            rw [List.getElem?_map, eq] at ho
            have eo : o = if q ∉ orb S p then some (prD q) else none := (Option.some.inj ho).symm
            refine ⟨rfl, _, rfl, _, rfl, prP q, (orb S p).map prP, dp_pr (s8 _ _ hc1), .lst (SqL.of (s8 _ _ hr7)) (dpa_prs (hrs7.sm s8)), pr_shaped _, prs_shaped _, _, rfl, ?_⟩
            rw [prs_any]
            refine ite2 (fun c2 => ?_) (fun c2 => ?_)
            · have hn : q ∉ orb S p := by simpa using c2
              rw [if_pos hn] at eo
              exact ⟨_, rfl, hC _ eo _ _ (Same.refl _) (prD_is (s8 _ _ hc1))⟩
            · have hn : ¬ q ∉ orb S p := by simpa using c2
              rw [if_neg hn] at eo
              exact hZ eo _ (Same.refl _)
          · rw [fil_fs] at hzs
            have hfo8 := s8 _ _ (upd_same : (upd (upd H5 t (.tup rs)) fo (.lst (ws ++ [.ref t]))) fo = _)
            refine ⟨D, zs, ws ++ [.ref t], (p :: L').filter fun q => decide (q ∉ orb S p), R ++ [orb S p], _, _, _, _, _, _, rfl, sH7.trans s8, hD, (ne_of_none (upd_same : (upd (upd H5 t (.tup rs)) fo (.lst (ws ++ [.ref t]))) fo = _) nD).symm, hfo8, hzs, hws7.sm s8, fun q hq => hin q (List.mem_filter.mp hq).1, ?_, ?_, hcl2⟩
            · rw [List.filter_cons_of_neg (by simpa using orb_self vd hp)]
              have := List.length_filter_le (fun q => decide (q ∉ orb S p)) L'
              omega
            · rw [List.length_append]
              show R.length + 1 + m' ≤ _
              omega
        · obtain ⟨ro, rs, row, c, q, y3, y5, y6, y7, y8, rfl, s5, hro, hrs, hc, hrf, hrl, hq, hh0, hhd, hc0', hlw⟩ := hpv
          obtain ⟨rfl, rfl⟩ := hY
          have hrsl := hrs.length
          rw [List.length_map] at hrsl
          have sH5 := s3.trans s5
          -- f, b = row[-1]
          refine ⟨_, rfl, _, rfl, ro, _, -1, .ref c, rfl, rfl, SqL.of hro, atI_last _ _, c, [_, _], rfl, SqT.of hc, rfl, _, _, rfl, _, _, rfl, rfl, ?_⟩
          -- later
          obtain ⟨r, er, er2⟩ := sh.at hq.1 (show (q.2 + 3) % 4 < 4 by omega)
          obtain ⟨b, rr, eb, hb, _, hcell⟩ := hrow q.1 r er
          obtain ⟨c2, ec2, hc2⟩ := hcell _ _ er2
          refine ⟨_, rfl, _, rfl, sa, us, (q.1 : Nat), .ref b, rfl, rfl, SqT.of (sH5 _ _ hsa), atI_nat eb, ?_⟩
          refine ⟨_, rfl, _, _, rfl, rfl, .inl ⟨_, rfl, _, _, rfl, rfl, (show (0 : Int) < 4 by decide), ?_⟩⟩
          refine ⟨b, rr, _, .ref c2, rfl, rfl, SqT.of (sH5 _ _ hb), by rw [plus3]; exact atI_nat ec2, ?_⟩
          have hc2' : H6 c2 = some (.tup [.int (nx S q).1, .int (nx S q).2]) := sH5 _ _ hc2
          -- if later == row[0]: break
          refine ⟨_, rfl, _, rfl, ro, _, 0, .ref c0, rfl, rfl, SqL.of hro, atI_nat (j := 0) hh0, prP (nx S q), prP p, dp_pr hc2', dp_pr hc0', pr_shaped _, pr_shaped _, _, rfl, ?_⟩
          rw [pr_eqv]
          obtain ⟨mm, hmm⟩ : ∃ mm, 4 * S.length - j = mm + 1 := ⟨4 * S.length - (j + 1), by omega⟩
          have hlw2 : (if nx S q = p then row ++ [q] else lw S mm ((row ++ [q]) ++ [nx S q])) = orb S p := by
            rw [hmm] at hlw
            unfold lw at hlw
            rw [List.getLastD_concat, hhd] at hlw
            exact hlw
          refine ite2 (fun c1 => ?_) (fun c1 => ?_)
          · have e : nx S q = p := of_decide_eq_true c1
            rw [if_pos e] at hlw2
            refine hpost _ _ ⟨ro, rs ++ [.ref c], _, _, _, _, _, rfl, s5, hro, ?_, hrf⟩
            rw [← hlw2, List.map_append]
            exact hrs.append (.cons (prD_is hc) .nil)
          · have e : ¬ nx S q = p := of_decide_eq_false (Bool.eq_false_iff.mpr c1)
            rw [if_neg e] at hlw2
            refine ⟨_, rfl, _, rfl, (show 1 ≤ sizeLine by decide), fun t nt => ?_⟩
            have s6 := sm_upd nt (o := .lst [.ref c2])
            refine ⟨ro, t, _, _, rfl, rfl, s6 _ _ hro, upd_same, Nat.le_of_lt (small1000 ?_), fun ro2 nro2 => ?_⟩
            · rw [List.length_append]
              show rs.length + 1 + 1 ≤ 1000
              omega
            · have s7 := s6.trans (sm_upd nro2 (o := .lst ((rs ++ [V.ref c]) ++ [.ref c2])))
              refine ⟨ro2, rs ++ [.ref c], row ++ [q], c2, nx S q, _, _, _, _, _, rfl, s5.trans s7, upd_same, ?_, s7 _ _ hc2', (ne_of_none (s6 _ _ (s5 _ _ hfo)) nro2).symm, by rw [List.length_append, hrl] <;> rfl, nx_in sh hq, ?_, ?_, s7 _ _ hc0', ?_⟩
              · rw [List.map_append]
                exact (hrs.sm s7).append (.cons (prD_is (s7 _ _ hc)) .nil)
              · rw [List.getElem?_append_left (by rw [List.length_append]; show 0 < _ + 1; omega)]
                exact hh0
              · rw [← hhd]
                cases row <;> rfl
              · rw [show 4 * S.length - (j + 1) = mm by omega]
                exact hlw2
        · obtain ⟨ro, rs, row, c, q, y3, y5, y6, y7, y8, rfl, s5, hro, hrs, hc, hrf, hrl, hq, hh0, hhd, hc0', hlw⟩ := hpv
          refine ⟨ro, rs ++ [.ref c], _, _, _, _, _, rfl, s5, hro, ?_, hrf⟩
          rw [show 4 * S.length - 4 * us.length = 0 by omega] at hlw
          have hlw3 : row ++ [q] = orb S p := hlw
          rw [← hlw3, List.map_append]
          exact hrs.append (.cons (prD_is hc) .nil)
      · have hne : L = [] := by simpa using c
        subst hne
        rw [cl_nil, List.append_nil] at hcl
        rw [hcl] at hws
        exact ⟨_, rfl, q fo ws _ (s3.trans se) (se _ _ hfo) (hws.sm se)⟩
end
end Hp5

set_option maxHeartbeats 4000000
namespace Hp5
open PySem PySem.Spec PyProof.Rows L2
section
variable {P : Program} {w : World} {K : PySem.W.Frag} {mg : Str → Option Value} {base : Heap}
abbrev ns_l_ends : List Str := ["_law_hide", "_law_at_so", "_law_k", "_law_own", "_law_its"]
theorem sc_l_ends : FnScope ns_l_ends ["_law_hide"] (defScope s_l_ends) := ⟨rfl, rfl, rfl, by decide +kernel, rfl, by decide +kernel, by decide +kernel⟩
theorem ok_l_ends (T : Tx K mg) : OkD P w K mg base 2 "_law_ends" ["_law_hide"] spEnds := by
  have G_l_corners : OkD P w K mg base 1 "_law_corners" ["_law_hide"] spLCorners := ok_l_corners T
  have G_l_edges : OkD P w K mg base 1 "_law_edges" ["_law_hide"] spEdges := ok_l_edges T
  refine T.d_l_ends.ok sc_l_ends (fun vs H Q E h => ?_) (fun cdv A outer s H vs Q E hr h => ?_)
  · obtain ⟨v, S, rfl, _⟩ := h
    rfl
  · obtain ⟨v, S, rfl, hv, vd, q⟩ := h
    have hv0 := hv
    have nn := sc_l_ends.nd
    have hu := hu_of hr
    have few := vd.sh.few
    -- slots: 0 _law_hide, 1 _law_at_so, 2 _law_k, 3 _law_own, 4 _law_its; calls: _law_corners, _law_edges
    refine ⟨_, (pss_cons (ps_set (i := 1) nn rfl (by first | exact .inl rfl | exact .inr rfl) pe_dnewT)
      (pss_cons (ps_for PassesOwn.never rfl (piEL K T.m_enumerate (pa_cons (pe_c G_l_corners hr (by decide) (pa_cons (pv 0) pa_nil)) pa_nil)) (pgT K (n := 2) (pgs_cons (pg_name (i := 2) nn rfl (by first | exact .inl rfl | exact .inr rfl)) (pgs_cons (pg_name (i := 3) nn rfl (by first | exact .inl rfl | exact .inr rfl)) pgs_nil))) (pss_one (ps_for PassesOwn.never rfl (piT K (pv 3)) (pg_name (i := 4) nn rfl (by first | exact .inl rfl | exact .inr rfl)) (pss_one (ps_dput hu (pv 1) (pv 4) (pv 2) rfl)))))
      (pss_one (ps_ret (pe_lc (own := [("_law_own", 3)]) (g := gName 3) (tt := tYes) rfl nn (piL K (pe_c G_l_edges hr (by decide) (pa_cons (pv 0) pa_nil))) (blkOk_by (N := ns_l_ends) (sc := defScope s_l_ends) (by decide +kernel)) (fun _ _ _ _ _ => (pg_name (i := 3) nn rfl (by first | exact .inl rfl | exact .inr rfl))) (fun _ _ _ _ _ => pts_nil) (fun _ _ _ _ _ => (pe_tup (pa_cons (pe_dget hu (pv 1) (pv 3) (fun _ _ => rfl)) (pa_cons (pe_dget hu (pv 1) (pe_tup (pa_cons (pe_ix (ixT K) (pv 3) pe_int (fun _ _ => rfl)) (pa_cons (pe_op op_mod (pe_callTy call_int1 (by rfl) T.m_int bt_int (pa_cons (pe_op op_add (pe_ix (ixT K) (pv 3) pe_int (fun _ _ => rfl)) pe_int) pa_nil)) pe_int) pa_nil))) (fun _ _ => rfl)) pa_nil))))))))), ?_⟩
    intro d nd
    have s0 : Same H (upd H d (.dT [])) := sm_upd nd
    refine ⟨_, rfl, v, S, rfl, hv0.sm s0, vd, fun cv cws H1 s1 hcv hcws => ?_⟩
    rw [← corners_same vd] at hcws
    have hd1 := s1 _ _ upd_same
    have sH1 := s0.trans s1
    have hcl := hcws.length
    rw [List.length_map] at hcl
    have hdc : d ≠ cv := ne_of hd1 hcv (by intro z; cases z)
    refine ⟨cv, cws, rfl, SqL.of hcv, ?_⟩
    refine for_it (walk_enum (K := K) (a := cv) (xs := cws)) (fun i σ H2 => ∃ y2 y3 y4, σ = [some v, some (.ref d), y2, y3, y4] ∧ Same H H2 ∧ Tps H1 H2 ∧ H2 cv = some (.lst cws) ∧ H2 d = some (.dT (kd (atTo (cornersM S) i))) ∧ KeysIn S.length (atTo (cornersM S) i))
      ⟨_, _, _, rfl, sH1, Tps.of (Same.refl _), hcv, hd1, KeysIn.nil _⟩ (fun i σ H2 hi hp => ?_) (fun i x σ H2 H3 hi hp hY => ?_) (fun σ H2 hp => ?_)
    · obtain ⟨_, _, _, _, _, _, hc2, _⟩ := hp
      exact SqL.of hc2
    · obtain ⟨y2, y3, y4, rfl, s2, tp, hcv2, hd2, hk2⟩ := hp
      obtain ⟨t, xi, xe, rfl, nt, rfl, e1, e2⟩ := hY
      cases e1
      obtain ⟨r, er⟩ := lt_get (l := cornersM S) (i := i) (by omega)
      obtain ⟨xe', hxe', hie⟩ := hcws.get (i := i) (d := rowD r) (by rw [List.getElem?_map, er] <;> rfl)
      obtain rfl : xe = xe' := Option.some.inj (e2.symm.trans hxe')
      obtain ⟨b, rs, rfl, hb, hrs⟩ := hie.tupE
      have hrl := hrs.length
      rw [List.length_map] at hrl
      have eg : (cornersM S).getD i [] = r := by rw [List.getD_eq_getElem?_getD, er] <;> rfl
      obtain ⟨_, _, _, rin⟩ := row_facts vd (List.mem_of_getElem? er)
      have s3 := s2.trans (sm_upd nt (o := .tup [.int (i : Nat), .ref b]))
      have tp3 := tp.trans (Tps.of (sm_upd nt (o := .tup [.int (i : Nat), .ref b])))
      refine ⟨t, [_, _], rfl, SqT.of upd_same, rfl, _, _, rfl, _, _, rfl, rfl, ?_⟩
      refine ⟨_, rfl, b, rfl, ⟨rs, SqT.of (tp3 _ _ hb)⟩, ?_⟩
      refine for_it (walk_tup (K := K) (a := b) (xs := rs)) (fun j σ H4 => ∃ y4, σ = [some v, some (.ref d), some (.int (i : Nat)), some (.ref b), y4] ∧ Same H H4 ∧ Tps H1 H4 ∧ H4 cv = some (.lst cws) ∧ H4 d = some (.dT (kd (atRow (atTo (cornersM S) i) i r j))) ∧ KeysIn S.length (atRow (atTo (cornersM S) i) i r j))
        ⟨_, rfl, s3, tp3, sm_upd nt _ _ hcv2, sm_upd nt _ _ hd2, hk2⟩ (fun j σ H4 hj hp => ?_) (fun j x σ H4 H5 hj hp hY => ?_) (fun σ H4 hp => ?_)
      · obtain ⟨_, _, _, tp4, _⟩ := hp
        exact SqT.of (tp4 _ _ hb)
      · obtain ⟨z4, rfl, s4, tp4, hcv4, hd4, hk4⟩ := hp
        obtain ⟨rfl, hx⟩ := hY
        obtain ⟨p, ep⟩ := lt_get (l := r) (i := j) (by omega)
        obtain ⟨x', hx', hi'⟩ := hrs.get (i := j) (d := prD p) (by rw [List.getElem?_map, ep] <;> rfl)
        obtain rfl : x = x' := Option.some.inj (hx.symm.trans hx')
        obtain ⟨c, rfl, hc⟩ := hi'.prE
        have egp : r.getD j (0, 0) = p := by rw [List.getD_eq_getElem?_getD, ep] <;> rfl
        have hkl := hk4.len
        refine ⟨_, rfl, _, rfl, _, rfl, d, _, rfl, DPut.t (k := pk p) hd4 (tp4 _ _ hc) (by rw [kd_len]; exact small1000 (by omega)), ?_⟩
        rw [putK_kd]
        refine ⟨_, rfl, sm_upd2 s4 nd, tp4.trans (Tps.updT hd4), ?_, ?_, ?_⟩
        · rw [upd_ne hdc.symm]
          exact hcv4
        · rw [upd_same]
          show _ = some (HO.dT (kd (putK (atRow (atTo (cornersM S) i) i r j) (r.getD j (0, 0)) _)))
          rw [egp]
        · show KeysIn _ (putK (atRow (atTo (cornersM S) i) i r j) (r.getD j (0, 0)) _)
          rw [egp]
          exact hk4.put (rin p (List.mem_of_getElem? ep)) _
      · obtain ⟨z4, rfl, s4, tp4, hcv4, hd4, hk4⟩ := hp
        have e : atTo (cornersM S) (i + 1) = atRow (atTo (cornersM S) i) i r rs.length := by
          show atRow (atTo (cornersM S) i) i ((cornersM S).getD i []) ((cornersM S).getD i []).length = _
          rw [eg, hrl]
        exact ⟨_, _, _, rfl, s4, tp4, hcv4, by rw [e]; exact hd4, by rw [e]; exact hk4⟩
    · obtain ⟨y2, y3, y4, rfl, s2, tp, hcv2, hd2, hk2⟩ := hp
      rw [hcl] at hd2
      refine ⟨_, rfl, v, S, rfl, hv.sm s2, vd.sh, fun l ws H3 s3 hl hws => ?_⟩
      have hd3 := s3 _ _ hd2
      have hwl := hws.length
      rw [List.length_map] at hwl
      have hel := edgesTo_len S S.length
      refine ⟨l, rfl, ⟨ws, SqL.of hl⟩, fun D nD => ?_⟩
      refine lc_nm (walk_list (K := K) (a := l) (xs := ws)) ((endsM S).map prD) (by unfold endsM; rw [List.length_map, List.length_map, hwl]) (by unfold edgesM at hwl; omega) nD (fun H4 s4 => SqL.of (s4 _ _ hl)) (fun d hd => tuAll_iff.mp (tu_prs _) d hd) (fun x => rfl)
        (fun i x H4 H5 dd C hi hdd s4 hY hC => ?_) (fun H4 zs s4 hD hzs => q D zs H4 ((s2.trans s3).trans s4) hD hzs)
      obtain ⟨rfl, hx⟩ := hY
      obtain ⟨e, he⟩ := lt_get (l := edgesM S) (i := i) (by omega)
      obtain ⟨x', hx', hie⟩ := hws.get (i := i) (d := prD e) (by rw [List.getElem?_map, he] <;> rfl)
      obtain rfl : x = x' := Option.some.inj (hx.symm.trans hx')
      obtain ⟨c, rfl, hc⟩ := hie.prE
      have heR := (mem_edges.mp (List.mem_of_getElem? he)).1
      have edd : dd = prD (lookN (atM (cornersM S)) e, lookN (atM (cornersM S)) (e.1, (e.2 + 1) % 4)) := by
        unfold endsM at hdd
        rw [List.getElem?_map, List.getElem?_map, he] at hdd
        exact (Option.some.inj hdd).symm
      subst edd
      have hd4 := s4 _ _ hd3
      have hc4 := s4 _ _ hc
      refine ⟨_, rfl, _, rfl, d, _, rfl, dget_n (p := e) hd4 hc4 (at_ints _) (at_has vd heR), ?_⟩
      refine ⟨_, rfl, _, rfl, c, _, 0, _, rfl, rfl, SqT.of hc4, atI_nat (j := 0) rfl, ?_⟩
      refine ⟨_, rfl, c, _, 1, _, rfl, rfl, SqT.of hc4, atI_nat (j := 1) rfl, _, _, rfl, rfl, .inl ⟨_, rfl, _, _, rfl, rfl, (show (0 : Int) < 4 by decide), ?_⟩⟩
      refine ⟨tup2_line, fun p2 np2 => ?_⟩
      have s5 := sm_upd np2 (o := .tup [.int (e.1 : Nat), .int ((((e.2 : Nat) : Int) + 1) % 4)])
      refine ⟨d, _, rfl, dget_n (p := (e.1, (e.2 + 1) % 4)) (s5 _ _ hd4) (tup_eq (plus4 _)) (at_ints _) (at_has vd ⟨heR.1, Nat.mod_lt _ (by decide)⟩), tup2_line, fun p3 np3 => ?_⟩
      exact hC _ _ (s5.trans (sm_upd np3)) (prD_is upd_same)
end
end Hp5

set_option maxHeartbeats 4000000
namespace Hp5
open PySem PySem.Spec PyProof.Rows L2
/-! labels, in a dict -/
def lotK (n : Nat) (v : List Nat) : List (Pr × V) := (List.range (4 * n)).map fun k => (prAt k, V.int ((v.getD k 0 : Nat) : Int))
def nsL (n : Nat) (v : List Nat) : List Int := (List.range (4 * n)).map fun k => ((v.getD k 0 : Nat) : Int)
theorem lotK_len (n : Nat) (v : List Nat) : (lotK n v).length = 4 * n := by unfold lotK; rw [List.length_map, List.length_range]
theorem nsL_len (n : Nat) (v : List Nat) : (nsL n v).length = 4 * n := by unfold nsL; rw [List.length_map, List.length_range]
theorem prAt_inj {i k : Nat} (h : prAt i = prAt k) : i = k := by
  have := congrArg ix h
  rwa [ix_prAt, ix_prAt] at this
theorem valV_row (f : Nat → V) (k : Nat) : ∀ l : List Nat, valV (l.map fun i => (prAt i, f i)) (prAt k) = if k ∈ l then some (f k) else none
  | [] => by rw [if_neg List.not_mem_nil]; rfl
  | i :: r => by
    rw [List.map_cons]
    by_cases e : i = k
    · subst e
      rw [valV_pos rfl, if_pos List.mem_cons_self]
    · rw [valV_neg (fun h => e (prAt_inj h)), valV_row f k r]
      have hiff : k ∈ r ↔ k ∈ i :: r := ⟨fun h => List.mem_cons_of_mem _ h, fun h => (List.mem_cons.mp h).resolve_left fun z => e z.symm⟩
      by_cases h : k ∈ r
      · rw [if_pos h, if_pos (hiff.mp h)]
      · rw [if_neg h, if_neg fun z => h (hiff.mpr z)]
theorem lotK_at {n k : Nat} (v : List Nat) (h : k < 4 * n) : valV (lotK n v) (prAt k) = some (.int ((v.getD k 0 : Nat) : Int)) := by
  unfold lotK
  rw [valV_row (fun k => V.int ((v.getD k 0 : Nat) : Int)), if_pos (List.mem_range.mpr h)]
theorem lotK_put {n k x : Nat} {v : List Nat} (hv : v.length = 4 * n) (h : k < 4 * n) : putK (lotK n v) (prAt k) (.int (x : Nat)) = lotK n (v.set k x) := by
  have e : ((lotK n v).any fun kv => decide (kv.1 = prAt k)) = true := by
    rw [valV_any, lotK_at v h] <;> rfl
  unfold putK
  rw [if_pos e]
  unfold lotK
  rw [List.map_map]
  refine List.map_congr_left fun i hi => ?_
  show (if prAt i = prAt k then (prAt i, V.int (x : Nat)) else (prAt i, V.int ((v.getD i 0 : Nat) : Int))) = (prAt i, V.int (((v.set k x).getD i 0 : Nat) : Int))
  rw [getD_set (by omega)]
  by_cases e : i = k
  · rw [if_pos (by rw [e]), if_pos e]
  · rw [if_neg (fun z => e (prAt_inj z)), if_neg e]
theorem kd_lotK (n : Nat) (v : List Nat) : kd (lotK n v) = ((allP n).map pk).zip ((nsL n v).map V.int) := by
  unfold kd lotK allP nsL
  rw [List.map_map, List.map_map, List.map_map, List.zip_map']
  rfl
theorem nsL_inj {n : Nat} {v u : List Nat} (hv : v.length = 4 * n) (hu : u.length = 4 * n) (h : nsL n v = nsL n u) : v = u := by
  refine List.ext_getElem? fun k => ?_
  by_cases hk : k < 4 * n
  · have e1 : (nsL n v)[k]? = some ((v.getD k 0 : Nat) : Int) := by unfold nsL; rw [List.getElem?_map, List.getElem?_range hk] <;> rfl
    have e2 : (nsL n u)[k]? = some ((u.getD k 0 : Nat) : Int) := by unfold nsL; rw [List.getElem?_map, List.getElem?_range hk] <;> rfl
    rw [h, e2] at e1
    have e3 : u.getD k 0 = v.getD k 0 := Int.ofNat.inj (Option.some.inj e1)
    rw [List.getElem?_eq_getElem (by omega), List.getElem?_eq_getElem (by omega)]
    rw [List.getD_eq_getElem?_getD, List.getD_eq_getElem?_getD, List.getElem?_eq_getElem (by omega), List.getElem?_eq_getElem (by omega)] at e3
    exact congrArg some e3.symm
  · rw [List.getElem?_eq_none (by omega), List.getElem?_eq_none (by omega)]
theorem minI (i j : Nat) : (if (j : Int) < (i : Int) then (j : Int) else (i : Int)) = ((min i j : Nat) : Int) := by
  by_cases h : j < i
  · rw [if_pos (by omega), Nat.min_eq_right (by omega)]
  · rw [if_neg (by omega), Nat.min_eq_left (by omega)]
theorem Paired.get {α β : Type} {F : α → β → Prop} : ∀ {l : List α} {m : List β} {i : Nat} {a : α}, Paired F l m → l[i]? = some a → ∃ b, m[i]? = some b ∧ F a b
  | _, _, _, _, .nil, e => by simp at e
  | _, _, 0, _, .cons h _, e => by simp at e; subst e; exact ⟨_, rfl, h⟩
  | _, _, i + 1, _, .cons _ t, e => by
    obtain ⟨b, h1, h2⟩ := Paired.get (i := i) t (by simpa using e)
    exact ⟨b, by simpa using h1, h2⟩
/-! the hashes of up to two dozen pairs differ -/
def hz (p : Pr) : Int := reduceHash (Builtin.Tuple.tupleHashOf [hashInt (p.1 : Int), hashInt (p.2 : Int)])
theorem hz_eq (P : Program) (w : World) (p : Pr) : (tupleKind (mixKind P w)).hash (pk p) = hz p := rfl
theorem hz6v : ((List.range 24).map fun k => hz (prAt k)) = [(-8458139203682520985), (-1950498447580522560), 7204814214171964562, (-4734289103435588629), (-5164621852614943976), 8389048192121911274, (-3550055125485641917), (-1440771752368011620), 4685526799349444076, 6794810172467074373, 1901736143494378007, 8409376899596376432, 2248468952609198383, 8756109708711196808, 3863035679738500442, 5972319052856130739, (-6348126469135965181), 159514286966033244, (-9131917124991031250), (-2624276368889032825), (-3054609118068388172), 3453031638033610253, (-5838399773923454241), 669240982178544184] := by decide +kernel
theorem hz6 : ((List.range 24).map fun k => hz (prAt k)).Nodup := by
  rw [hz6v]
  decide +kernel
theorem hz_nd {n : Nat} (h : n ≤ 6) : ((List.range (4 * n)).map fun k => hz (prAt k)).Nodup := by
  have e : List.range 24 = List.range (4 * n) ++ (List.range (24 - 4 * n)).map (4 * n + ·) := by
    rw [← List.range_add]
    congr 1
    omega
  have := hz6
  rw [e, List.map_append] at this
  exact (List.nodup_append.mp this).1
theorem lot_map (F : List Key → Int) (n : Nat) (v : List Nat) : ((kd (lotK n v)).map fun p => F p.1) = (List.range (4 * n)).map fun k => F (pk (prAt k)) := by
  unfold kd lotK
  rw [List.map_map, List.map_map]
  rfl
theorem lot_nd (P : Program) (w : World) {n : Nat} (h : n ≤ 6) (v : List Nat) : ((kd (lotK n v)).map fun p => (tupleKind (mixKind P w)).hash p.1).Nodup := by
  rw [lot_map (tupleKind (mixKind P w)).hash n v, show (List.range (4 * n)).map (fun k => (tupleKind (mixKind P w)).hash (pk (prAt k))) = (List.range (4 * n)).map fun k => hz (prAt k) from List.map_congr_left fun k _ => hz_eq P w (prAt k)]
  exact hz_nd h
/-- behind k pairs -/
def lotB (k : Nat) : List (Pr × V) := (List.range k).map fun i => (prAt i, V.int ((i : Nat) : Int))
theorem lotB_len (k : Nat) : (lotB k).length = k := by unfold lotB; rw [List.length_map, List.length_range]
theorem lotB_put (k : Nat) : putK (lotB k) (prAt k) (.int (k : Nat)) = lotB (k + 1) := by
  have e : valV (lotB k) (prAt k) = none := by
    unfold lotB
    rw [valV_row (fun i => V.int ((i : Nat) : Int)), if_neg (fun h => Nat.lt_irrefl _ (List.mem_range.mp h))]
  rw [putK_new _ e]
  unfold lotB
  rw [List.range_succ, List.map_append] <;> rfl
theorem lotB_full (n : Nat) : lotB (4 * n) = lotK n (List.range (4 * n)) := by
  unfold lotB lotK
  refine List.map_congr_left fun k hk => ?_
  rw [List.getD_eq_getElem?_getD, List.getElem?_range (List.mem_range.mp hk)] <;> rfl
section
variable {P : Program} {w : World} {K : PySem.W.Frag} {mg : Str → Option Value} {base : Heap}
def spLots : Sp := fun vs H Q _ => ∃ (v : V) (S : Skin), vs = [v] ∧ Is H v (skD S) ∧ Valid S ∧ S.length ≤ 6 ∧ ∀ d H', Same H H' → H' d = some (.dT (kd (lotK S.length (lotsM S)))) → Q (.ref d) H'
abbrev ns_l_lots_of_ends : List Str := ["_law_hide", "_law_lots_so", "_law_f", "_law_b", "_law_lap", "_law_before_so", "_law_own", "_law_g", "_law_its", "_law_low_so"]
theorem sc_l_lots_of_ends : FnScope ns_l_lots_of_ends ["_law_hide"] (defScope s_l_lots_of_ends) := ⟨rfl, rfl, rfl, by decide +kernel, rfl, by decide +kernel, by decide +kernel⟩
theorem ok_l_lots (T : Tx K mg) : OkD P w K mg base 1 "_law_lots_of_ends" ["_law_hide"] spLots := by
  refine T.d_l_lots_of_ends.ok sc_l_lots_of_ends (fun vs H Q E h => ?_) (fun cdv A outer s H vs Q E hr h => ?_)
  · obtain ⟨v, S, rfl, _⟩ := h
    rfl
  · obtain ⟨v, S, rfl, hv, vd, h6, q⟩ := h
    obtain ⟨sa, us, rfl, hsa, hul, hrow⟩ := row_at hv
    have nn := sc_l_lots_of_ends.nd
    have hu := hu_of hr
    have hu8 := room8 hr
    have sh := vd.sh
    -- slots: 0 _law_hide, 1 _law_lots_so, 2 _law_f, 3 _law_b, 4 _law_lap, 5 _law_before_so, 6 _law_own, 7 _law_g, 8 _law_its, 9 _law_low_so; calls:
    refine ⟨_, (pss_cons (ps_set (i := 1) nn rfl (by first | exact .inl rfl | exact .inr rfl) pe_dnewT)
      (pss_cons (ps_for PassesOwn.never rfl (pi_range1 (by rfl) T.m_range (pa_cons (pe_callB (cLen K) (by rfl) T.m_len bt_len (pa_cons (pv 0) pa_nil)) pa_nil)) (pg_name (i := 2) nn rfl (by first | exact .inl rfl | exact .inr rfl)) (pss_one (ps_for PassesOwn.never rfl (pi_range1 (by rfl) T.m_range (pa_cons pe_int pa_nil)) (pg_name (i := 3) nn rfl (by first | exact .inl rfl | exact .inr rfl)) (pss_one (ps_dput hu (pv 1) (pe_tup (pa_cons (pv 2) (pa_cons (pv 3) pa_nil))) (pe_op op_add (pe_op op_mul pe_int (pv 2)) (pv 3)) rfl)))))
      (pss_cons (ps_for PassesOwn.never rfl (pi_range1 (by rfl) T.m_range (pa_cons (pe_op op_mul pe_int (pe_callB (cLen K) (by rfl) T.m_len bt_len (pa_cons (pv 0) pa_nil))) pa_nil)) (pg_name (i := 4) nn rfl (by first | exact .inl rfl | exact .inr rfl)) (pss_cons (ps_set (i := 5) nn rfl (by first | exact .inl rfl | exact .inr rfl) (pe_callTy (cr_dictT hu8) (by rfl) T.m_dict bt_dict (pa_cons (pv 1) pa_nil)))
      (pss_cons (ps_for PassesOwn.never rfl (piL K (pe_callTy (call_list_dT rfl) (by rfl) T.m_list bt_list (pa_cons (pv 1) pa_nil))) (pg_name (i := 6) nn rfl (by first | exact .inl rfl | exact .inr rfl)) (pss_cons (ps_asg (pe_ix (ixT K) (pe_ix (ixT K) (pv 0) (pe_ix (ixT K) (pv 6) pe_int (fun _ _ => rfl)) (fun _ _ => rfl)) (pe_ix (ixT K) (pv 6) pe_int (fun _ _ => rfl)) (fun _ _ => rfl)) (pgT K (n := 2) (pgs_cons (pg_name (i := 7) nn rfl (by first | exact .inl rfl | exact .inr rfl)) (pgs_cons (pg_name (i := 3) nn rfl (by first | exact .inl rfl | exact .inr rfl)) pgs_nil))))
      (pss_cons (ps_set (i := 8) nn rfl (by first | exact .inl rfl | exact .inr rfl) (pe_tup (pa_cons (pv 7) (pa_cons (pe_op op_mod (pe_callTy call_int1 (by rfl) T.m_int bt_int (pa_cons (pe_op op_add (pv 3) pe_int) pa_nil)) pe_int) pa_nil))))
      (pss_cons (ps_set (i := 9) nn rfl (by first | exact .inl rfl | exact .inr rfl) (pe_callB (call_min2 rfl) (by rfl) T.m_min bt_min (pa_cons (pe_dget hu (pv 1) (pv 6) (fun _ _ => rfl)) (pa_cons (pe_dget hu (pv 1) (pv 8) (fun _ _ => rfl)) pa_nil))))
      (pss_one (ps_asg (pe_tup (pa_cons (pv 9) (pa_cons (pv 9) pa_nil))) (pgT K (n := 2) (pgs_cons (pg_sub (pv 1) (pv 6) (set_dict hu)) (pgs_cons (pg_sub (pv 1) (pv 8) (set_dict hu)) pgs_nil)))))))))
      (pss_one (ps_if (pt_cmpR (op_eqT hu8) (pv 1) (pv 5) (nomark _)) (pss_one ps_break) pss_nil)))))
      (pss_one (ps_ret (pv 1)))))), ?_⟩
    intro d nd
    have s0 : Same H (upd H d (.dT [])) := sm_upd nd
    refine ⟨_, rfl, sa, us, rfl, .inr (SqT.of (s0 _ _ hsa)), (us.length : Int), rfl, by omega, by omega, ?_⟩
    rw [Int.toNat_natCast]
    refine for_it (walk_rng (n := us.length)) (fun i σ H1 => ∃ y2 y3 y4 y5 y6 y7 y8 y9, σ = [some (.ref sa), some (.ref d), y2, y3, y4, y5, y6, y7, y8, y9] ∧ Same H H1 ∧ H1 d = some (.dT (kd (lotB (4 * i)))))
      ⟨_, _, _, _, _, _, _, _, rfl, s0, upd_same⟩ (fun _ _ _ _ _ => trivial) (fun i x σ H1 H2 hi hp hY => ?_) (fun σ H1 hp => ?_)
    · obtain ⟨y2, y3, y4, y5, y6, y7, y8, y9, rfl, s1, hd1⟩ := hp
      obtain ⟨rfl, rfl⟩ := hY
      refine ⟨4, rfl, by decide, by decide, ?_⟩
      refine for_it (walk_rng (n := 4)) (fun j σ H1 => ∃ y3 y4 y5 y6 y7 y8 y9, σ = [some (.ref sa), some (.ref d), some (.int (i : Nat)), y3, y4, y5, y6, y7, y8, y9] ∧ Same H H1 ∧ H1 d = some (.dT (kd (lotB (4 * i + j)))))
        ⟨_, _, _, _, _, _, _, rfl, s1, hd1⟩ (fun _ _ _ _ _ => trivial) (fun j x σ H1 H2 hj hp hY => ?_) (fun σ H1 hp => ?_)
      · obtain ⟨z3, z4, z5, z6, z7, z8, z9, rfl, s1, hd1⟩ := hp
        obtain ⟨rfl, rfl⟩ := hY
        have epr : prAt (4 * i + j) = (i, j) := by
          show ((4 * i + j) / 4, (4 * i + j) % 4) = (i, j)
          rw [show (4 * i + j) / 4 = i by omega, show (4 * i + j) % 4 = j by omega]
        refine ⟨_, rfl, _, _, rfl, rfl, .inl ⟨by decide, by decide⟩, _, rfl, _, _, rfl, rfl, ?_⟩
        refine ⟨_, rfl, _, rfl, _, rfl, tup2_line, fun p np => ?_⟩
        have hd2 := sm_upd np (o := .tup [.int (i : Nat), .int (j : Nat)]) _ _ hd1
        refine ⟨d, _, rfl, DPut.t (k := pk (i, j)) hd2 upd_same (by rw [kd_len, lotB_len]; exact small1000 (by omega)), ?_⟩
        rw [putK_kd]
        refine ⟨_, _, _, _, _, _, _, rfl, sm_upd2 (s1.trans (sm_upd np)) nd, ?_⟩
        rw [upd_same, ← epr]
        have ev : (4 : Int) * (i : Nat) + (j : Nat) = ((4 * i + j : Nat) : Int) := by omega
        rw [show (4 * i + (j + 1)) = (4 * i + j) + 1 by omega, ← lotB_put, ← ev] <;> rfl
      · obtain ⟨z3, z4, z5, z6, z7, z8, z9, rfl, s1, hd1⟩ := hp
        exact ⟨_, _, _, _, _, _, _, _, rfl, s1, by rw [show 4 * (i + 1) = 4 * i + 4 by omega]; exact hd1⟩
    · obtain ⟨y2, y3, y4, y5, y6, y7, y8, y9, rfl, s1, hd1⟩ := hp
      rw [hul, lotB_full] at hd1
      refine ⟨_, rfl, sa, us, rfl, .inr (SqT.of (s1 _ _ hsa)), _, _, rfl, rfl, .inl ⟨by decide, by decide⟩, ((4 * us.length : Nat) : Int), by rw [Int.natCast_mul] <;> rfl, by omega, by omega, ?_⟩
      rw [Int.toNat_natCast]
      refine for_itP (walk_rng (n := 4 * us.length)) (fun σ H2 => ∃ y2 y3 y4 y5 y6 y7 y8 y9, σ = [some (.ref sa), some (.ref d), y2, y3, y4, y5, y6, y7, y8, y9] ∧ Same H H2 ∧ H2 d = some (.dT (kd (lotK S.length (lotsM S))))) (fun σ H2 hpost => ?_)
        (fun j σ H2 => ∃ lv y2 y3 y4 y5 y6 y7 y8 y9, σ = [some (.ref sa), some (.ref d), y2, y3, y4, y5, y6, y7, y8, y9] ∧ Same H H2 ∧ H2 d = some (.dT (kd (lotK S.length lv))) ∧ lv.length = 4 * S.length ∧ lapsN S (4 * S.length - j) lv = lotsM S)
        ⟨List.range (4 * S.length), _, _, _, _, _, _, _, _, rfl, s1, hd1, List.length_range, rfl⟩ (fun _ _ _ _ _ => trivial) (fun hpost j x σ H2 H3 hj hp hY => ?_) (fun σ H2 hp => ?_)
      · obtain ⟨y2, y3, y4, y5, y6, y7, y8, y9, rfl, s2, hd2⟩ := hpost
        exact ⟨_, rfl, q d H2 s2 hd2⟩
      · obtain ⟨lv, y2, y3, y4, y5, y6, y7, y8, y9, rfl, s2, hd2, hlv, hlaps⟩ := hp
        obtain ⟨rfl, rfl⟩ := hY
        -- before = dict(lots)
        refine ⟨_, rfl, d, _, rfl, hd2, lot_nd _ _ h6 lv, fun d2 nd2 => ?_⟩
        have s3 := sm_upd nd2 (o := .dT (kd (lotK S.length lv)))
        have hdd : d ≠ d2 := ne_of_none hd2 nd2
        -- for own in list(lots)
        refine ⟨_, rfl, d, _, rfl, .inl (s3 _ _ hd2), fun l bs nl hbs => ?_⟩
        have s4 := sm_upd nl (o := .lst (bs.map V.ref))
        have s34 := s3.trans s4
        have hbl := Paired.length hbs
        rw [kd_len, lotK_len] at hbl
        have nd20 : H d2 = none := s2.free nd2
        refine ⟨l, rfl, ⟨bs.map V.ref, SqL.of upd_same⟩, ?_⟩
        refine for_it (walk_list (K := K) (a := l) (xs := bs.map V.ref)) (fun k σ H4 => ∃ y2 y3 y6 y7 y8 y9, σ = [some (.ref sa), some (.ref d), y2, y3, some (.int (j : Nat)), some (.ref d2), y6, y7, y8, y9] ∧ Same H H4 ∧ Tps (upd H3 d2 (.dT (kd (lotK S.length lv)))) H4 ∧ H4 l = some (.lst (bs.map V.ref)) ∧
            H4 d2 = some (.dT (kd (lotK S.length lv))) ∧ H4 d = some (.dT (kd (lotK S.length (lapTo S lv k)))))
          ⟨_, _, _, _, _, _, rfl, s2.trans s34, Tps.of s4, upd_same, s4 _ _ upd_same, s34 _ _ hd2⟩ (fun k σ H4 hk hp => ?_) (fun k x σ H4 H5 hk hp hY => ?_) (fun σ H4 hp => ?_)
        · obtain ⟨_, _, _, _, _, _, _, _, _, hl4, _⟩ := hp
          exact SqL.of hl4
        · obtain ⟨z2, z3, z6, z7, z8, z9, rfl, s5, tp5, hl5, hd25, hd5⟩ := hp
          obtain ⟨rfl, hx⟩ := hY
          have hk4 : k < 4 * S.length := by
            rw [List.length_map] at hk
            omega
          have hpin : InR S.length (prAt k) := prAt_in hk4
          obtain ⟨c, hcb, hc⟩ := Paired.get (i := k) (a := (pk (prAt k), V.int ((lv.getD k 0 : Nat) : Int))) hbs (by
            unfold kd lotK
            rw [List.map_map, List.getElem?_map, List.getElem?_range hk4] <;> rfl)
          rw [List.getElem?_map, hcb] at hx
          obtain rfl : V.ref c = x := Option.some.inj hx
          have hc5 := tp5 _ _ hc
          have hlt := lapTo_len (S := S) lv k
          -- g, b = hide[own[0]][own[1]]
          obtain ⟨r, er, er2⟩ := sh.at hpin.1 hpin.2
          obtain ⟨b, rr, eb, hb, _, hcell⟩ := hrow (prAt k).1 r er
          obtain ⟨c2, ec2, hc2⟩ := hcell _ _ er2
          refine ⟨_, rfl, _, rfl, c, _, 0, _, rfl, rfl, SqT.of hc5, atI_nat (j := 0) rfl, sa, us, ((prAt k).1 : Nat), .ref b, rfl, rfl, SqT.of (s5 _ _ hsa), atI_nat eb, ?_⟩
          refine ⟨_, rfl, c, _, 1, _, rfl, rfl, SqT.of hc5, atI_nat (j := 1) rfl, b, rr, ((prAt k).2 : Nat), .ref c2, rfl, rfl, SqT.of (s5 _ _ hb), atI_nat ec2, ?_⟩
          refine ⟨c2, [_, _], rfl, SqT.of (s5 _ _ hc2), rfl, _, _, rfl, _, _, rfl, rfl, ?_⟩
          -- its
          refine ⟨_, rfl, _, rfl, _, _, rfl, rfl, .inl ⟨_, rfl, _, _, rfl, rfl, (show (0 : Int) < 4 by decide), tup2_line, fun p1 np1 => ?_⟩⟩
          have s6 := sm_upd np1 (o := .tup [.int ((cr S (prAt k).1 (prAt k).2).1 : Nat), .int ((((cr S (prAt k).1 (prAt k).2).2 : Nat) + 1 : Int) % 4)])
          have hbk : InR S.length (bk S (prAt k)) := bk_in sh hpin
          have hbi := ix_lt hbk
          have hits : (upd H5 p1 (.tup [.int ((cr S (prAt k).1 (prAt k).2).1 : Nat), .int ((((cr S (prAt k).1 (prAt k).2).2 : Nat) + 1 : Int) % 4)])) p1 = some (.tup ((pk (prAt (ix (bk S (prAt k))))).map kV)) := by
            rw [prAt_ix hbk]
            exact tup_eq (plus4 _)
          have hd6 := s6 _ _ hd5
          have hc6 := s6 _ _ hc5
          -- low
          have g1 : DGet (upd H5 p1 (.tup [.int ((cr S (prAt k).1 (prAt k).2).1 : Nat), .int ((((cr S (prAt k).1 (prAt k).2).2 : Nat) + 1 : Int) % 4)])) d (.ref c) (some (.int (((lapTo S lv k).getD k 0 : Nat) : Int))) := by
            have := DGet.t (k := pk (prAt k)) hd6 hc6
            rwa [valV_kd, lotK_at _ hk4] at this
          have g2 : DGet (upd H5 p1 (.tup [.int ((cr S (prAt k).1 (prAt k).2).1 : Nat), .int ((((cr S (prAt k).1 (prAt k).2).2 : Nat) + 1 : Int) % 4)])) d (.ref p1) (some (.int (((lapTo S lv k).getD (ix (bk S (prAt k))) 0 : Nat) : Int))) := by
            have := DGet.t (k := pk (prAt (ix (bk S (prAt k))))) hd6 hits
            rwa [valV_kd, lotK_at _ hbi] at this
          refine ⟨_, rfl, _, rfl, d, _, rfl, g1, _, rfl, _, rfl, d, _, rfl, g2, _, _, rfl, ?_⟩
          rw [minI]
          -- lots[own], lots[its] = (low, low)
          refine ⟨_, rfl, _, rfl, tup2_line, fun t nt => ?_⟩
          have s7 := sm_upd nt (o := .tup [.int (low S (lapTo S lv k) k : Nat), .int (low S (lapTo S lv k) k : Nat)])
          have hd7 := s7 _ _ hd6
          have hc7 := s7 _ _ hc6
          refine ⟨t, [_, _], rfl, SqT.of upd_same, rfl, _, _, rfl, _, rfl, _, rfl, d, _, rfl, DPut.t (k := pk (prAt k)) hd7 hc7 (by rw [kd_len, lotK_len]; exact small1000 (by omega)), ?_⟩
          rw [putK_kd, lotK_put (by rw [hlt, hlv]) hk4]
          have tp8 := Tps.updT (o := .dT (kd (lotK S.length ((lapTo S lv k).set k (low S (lapTo S lv k) k))))) hd7
          have hits8 := tp8 _ _ (s7 _ _ hits)
          refine ⟨_, _, rfl, _, rfl, _, rfl, d, _, rfl, DPut.t (k := pk (prAt (ix (bk S (prAt k))))) upd_same hits8 (by rw [kd_len, lotK_len]; exact small1000 (by omega)), rfl, ?_⟩
          rw [putK_kd, lotK_put (by rw [List.length_set, hlt, hlv]) hbi]
          have s67 := s6.trans s7
          have hld : l ≠ d := ne_of hl5 hd5 (by intro z; cases z)
          have hdk : d2 ≠ d := hdd.symm
          refine ⟨_, _, _, _, _, _, rfl, sm_upd2 (sm_upd2 (s5.trans s67) nd) nd, ((tp5.trans (Tps.of s67)).trans tp8).trans (Tps.updT upd_same), ?_, ?_, ?_⟩
          · rw [upd_ne hld, upd_ne hld]
            exact s67 _ _ hl5
          · rw [upd_ne hdk, upd_ne hdk]
            exact s67 _ _ hd25
          · exact upd_same
        · obtain ⟨z2, z3, z6, z7, z8, z9, rfl, s5, tp5, hl5, hd25, hd5⟩ := hp
          rw [List.length_map, ← hbl] at hd5
          have hlap : lapTo S lv (4 * S.length) = lap S lv := rfl
          rw [hlap] at hd5
          have hll : (lap S lv).length = 4 * S.length := (lapTo_len lv _).trans hlv
          obtain ⟨mm, hmm⟩ : ∃ mm, 4 * S.length - j = mm + 1 := ⟨4 * S.length - (j + 1), by omega⟩
          have hlw : (if lap S lv = lv then lv else lapsN S mm (lap S lv)) = lotsM S := by
            rw [hmm] at hlaps
            exact hlaps
          have hd5' := hd5
          rw [kd_lotK] at hd5'
          rw [kd_lotK] at hd25
          refine ⟨_, rfl, _, rfl, d, d2, (allP S.length).map pk, nsL S.length (lap S lv), nsL S.length lv, rfl, rfl, by rw [nsL_len, List.length_map, allP_len], by rw [nsL_len, List.length_map, allP_len], hd5', hd25, _, rfl, ?_⟩
          refine ite2 (fun c1 => ?_) (fun c1 => ?_)
          · have e := nsL_inj hll hlv (of_decide_eq_true c1)
            rw [if_pos e] at hlw
            rw [e, hlw] at hd5
            exact hpost _ _ ⟨_, _, _, _, _, _, _, _, rfl, s5, hd5⟩
          · have e : ¬ lap S lv = lv := fun z => of_decide_eq_false (Bool.eq_false_iff.mpr c1) (by rw [z])
            rw [if_neg e] at hlw
            exact ⟨lap S lv, _, _, _, _, _, _, _, _, rfl, s5, hd5, hll, by rw [show 4 * S.length - (j + 1) = mm by omega]; exact hlw⟩
      · obtain ⟨lv, y2, y3, y4, y5, y6, y7, y8, y9, rfl, s2, hd2, hlv, hlaps⟩ := hp
        rw [show 4 * S.length - 4 * us.length = 0 by omega] at hlaps
        have e : lv = lotsM S := hlaps
        rw [e] at hd2
        exact ⟨_, _, _, _, _, _, _, _, rfl, s2, hd2⟩
end
end Hp5

set_option maxHeartbeats 4000000
/-! the law's source of draws -/
namespace Hp5
open PySem PySem.Spec PyProof.Rows L2
/-- all stays but for what lies at t -/
def Fr (t : Addr) (H H' : Hp) : Prop := ∀ b o, b ≠ t → H b = some o → H' b = some o
theorem Fr.refl (t : Addr) (H : Hp) : Fr t H H := fun _ _ _ h => h
theorem Fr.trans {t : Addr} {H H1 H2 : Hp} (a : Fr t H H1) (b : Fr t H1 H2) : Fr t H H2 := fun c o n h => b c o n (a c o n h)
theorem Fr.of {t : Addr} {H H1 : Hp} (a : Same H H1) : Fr t H H1 := fun c o _ h => a c o h
theorem Fr.t {t : Addr} {H : Hp} (o : HO) : Fr t H (upd H t o) := fun c x n h => by rw [upd_ne n]; exact h
theorem Fr.upd2 {t p : Addr} {H H1 : Hp} {o : HO} (f : Fr t H H1) (h : H p = none) : Fr t H (upd H1 p o) := fun c x n e => by
  rw [upd_ne (ne_of_none e h)]
  exact f c x n e
/-- three numbers lie at t, the last from 0 to n -/
def TinA (H : Hp) (t : Addr) (n : Nat) : Prop := ∃ x y z : Int, H t = some (.lst [.int x, .int y, .int z]) ∧ 0 ≤ z ∧ z ≤ n
theorem TinA.tin {H : Hp} {t : Addr} {n : Nat} (h : TinA H t n) : ∃ o, H t = some o ∧ Tin o := by
  obtain ⟨x, y, z, e, _⟩ := h
  exact ⟨_, e, x, y, z, rfl⟩
theorem TinA.sm {H H' : Hp} {t : Addr} {n : Nat} (h : TinA H t n) (s : Same H H') : TinA H' t n := by
  obtain ⟨x, y, z, e, a, b⟩ := h
  exact ⟨x, y, z, s _ _ e, a, b⟩
theorem TinA.mono {H : Hp} {t : Addr} {n m : Nat} (h : TinA H t n) (l : n ≤ m) : TinA H t m := by
  obtain ⟨x, y, z, e, a, b⟩ := h
  exact ⟨x, y, z, e, a, by omega⟩
theorem TinA.ne {H : Hp} {t b : Addr} {n : Nat} {o : HO} (h : TinA H t n) (e : H b = some o) (nt : ¬ Tin o) : b ≠ t := fun z => by
  obtain ⟨o', e', t'⟩ := h.tin
  rw [z, e'] at e
  cases e
  exact nt t'
theorem Fr.st {t : Addr} {n : Nat} {H H' : Hp} (f : Fr t H H') (h : TinA H t n) : Stay H H' := fun b o e nt => f b o (h.ne e nt) e
theorem TinA.upd2 {H : Hp} {t p : Addr} {n : Nat} {o o' : HO} (h : TinA H t n) (e : H p = some o) (nt : ¬ Tin o) : TinA (upd H p o') t n := by
  obtain ⟨x, y, z, e', a, b⟩ := h
  refine ⟨x, y, z, ?_, a, b⟩
  rw [upd_ne (TinA.ne ⟨x, y, z, e', a, b⟩ e nt).symm]
  exact e'
theorem nt_dT (d : List (List Key × V)) : ¬ Tin (.dT d) := fun ⟨_, _, _, e⟩ => by cases e
/-- lists of objects are no source -/
def Refs (ws : List V) : Prop := ∀ v ∈ ws, ∃ a, v = .ref a
theorem Refs.nt {ws : List V} (h : Refs ws) : ¬ Tin (.lst ws) := fun ⟨x, y, z, e⟩ => by
  injection e with e
  subst e
  obtain ⟨a, e⟩ := h _ List.mem_cons_self
  cases e
theorem Refs.erase {ws : List V} (h : Refs ws) (k : Nat) : Refs (ws.eraseIdx k) := fun v hv => h v (List.mem_of_mem_eraseIdx hv)
theorem Refs.snoc {ws : List V} (h : Refs ws) {a : Addr} : Refs (ws ++ [.ref a]) := fun v hv => by
  rcases List.mem_append.mp hv with hv | hv
  · exact h v hv
  · rw [List.mem_singleton] at hv
    exact ⟨a, hv⟩
theorem Refs.app {ws zs : List V} (h : Refs ws) (g : Refs zs) : Refs (ws ++ zs) := fun v hv => (List.mem_append.mp hv).elim (h v) (g v)
theorem Refs.nil : Refs [] := fun _ h => absurd h List.not_mem_nil
theorem refs_prs {H : Hp} : ∀ {ws : List V} {l : List Pr}, IsAll H ws (l.map prD) → Refs ws
  | _, [], h => by
    cases h
    exact Refs.nil
  | _, p :: r, h => by
    cases h with
    | cons h1 h2 =>
      obtain ⟨a, rfl, _⟩ := h1.prE
      intro v hv
      rcases List.mem_cons.mp hv with rfl | hv
      · exact ⟨a, rfl⟩
      · exact refs_prs h2 v hv
theorem perm_erase {α : Type} : ∀ {l : List α} {k : Nat} {v : α}, l[k]? = some v → (v :: l.eraseIdx k).Perm l
  | [], _, _, h => by simp at h
  | x :: r, 0, v, h => by
    simp at h
    subst h
    exact List.Perm.refl _
  | x :: r, k + 1, v, h => by
    have ih := perm_erase (l := r) (k := k) (v := v) (by simpa using h)
    exact (List.Perm.swap x v _).trans (List.Perm.cons x ih)
theorem seq_nat {r n : Nat} (h : r < n) : seqIndex? (r : Int) n = some r := by
  unfold seqIndex?
  have h1 : ¬ (r : Int) < 0 := by omega
  simp [h1]
  omega
section
variable {P : Program} {w : World} {K : PySem.W.Frag} {mg : Str → Option Value} {base : Heap}
def spTake : Sp := fun vs H Q _ => ∃ (t : Addr) (b : Int) (n : Nat), vs = [.ref t, .int b] ∧ 0 < b ∧ b < 1000000 ∧ TinA H t n ∧ n ≤ 1000000 ∧ ∀ (r : Nat) o, (r : Int) < b → TinA (upd H t o) t (n + 1) → Q (.int r) (upd H t o)
abbrev ns_l_take : List Str := ["_law_tin", "_law_below_so", "_law_drawn", "_law_once_so", "_law_wide_so", "_law_twice_so"]
theorem sc_l_take : FnScope ns_l_take ["_law_tin", "_law_below_so"] (defScope s_l_take) := ⟨rfl, rfl, rfl, by decide +kernel, rfl, by decide +kernel, by decide +kernel⟩
theorem ok_l_take (T : Tx K mg) : OkD P w K mg base 1 "_law_take" ["_law_tin", "_law_below_so"] spTake := by
  refine T.d_l_take.ok sc_l_take (fun vs H Q E h => ?_) (fun cdv A outer s H vs Q E hr h => ?_)
  · obtain ⟨t, b, n, rfl, _⟩ := h
    rfl
  · obtain ⟨t, b, n, rfl, hb0, hb9, ⟨x, y, z, ht, hz0, hz9⟩, hn, q⟩ := h
    have nn := sc_l_take.nd
    have hq : ∀ (r : Int) (x' y' z' : Int), 0 ≤ r → r < b → 0 ≤ z' → z' ≤ n + 1 → Q (.int r) (upd H t (.lst [.int x', .int y', .int z'])) := fun r x' y' z' h0 h1 h2 h3 => by
      have := q r.toNat (.lst [.int x', .int y', .int z']) (by omega) ⟨x', y', z', upd_same, h2, by omega⟩
      rwa [show ((r.toNat : Nat) : Int) = r by omega] at this
    -- slots: 0 _law_tin, 1 _law_below_so, 2 _law_drawn, 3 _law_once_so, 4 _law_wide_so, 5 _law_twice_so; calls:
    refine ⟨_, (pss_cons (ps_if (pt_cmpR op_gt (pe_ix (ixL K) (pv 0) pe_int (fun _ _ => rfl)) pe_int (nomark _)) (pss_cons (ps_set (i := 2) nn rfl (by first | exact .inl rfl | exact .inr rfl) (pe_op op_mod (pe_callTy call_int1 (by rfl) T.m_int bt_int (pa_cons (pe_ix (ixL K) (pv 0) pe_int (fun _ _ => rfl)) pa_nil)) (pv 1)))
      (pss_cons (ps_asg (pe_op op_fdiv (pe_ix (ixL K) (pv 0) pe_int (fun _ _ => rfl)) (pv 1)) (pg_sub (pv 0) pe_int set_list))
      (pss_one (ps_ret (pv 2))))) pss_nil)
      (pss_cons (ps_asg (pe_op op_add (pe_ix (ixL K) (pv 0) pe_int (fun _ _ => rfl)) pe_int) (pg_sub (pv 0) pe_int set_list))
      (pss_cons (ps_set (i := 3) nn rfl (by first | exact .inl rfl | exact .inr rfl) (pe_op op_mod (pe_callTy call_int1 (by rfl) T.m_int bt_int (pa_cons (pe_op op_mul (pe_op op_add (pe_ix (ixL K) (pv 0) pe_int (fun _ _ => rfl)) (pe_op op_mul pe_int (pe_ix (ixL K) (pv 0) pe_int (fun _ _ => rfl)))) (pe_op op_add pe_int (pe_ix (ixL K) (pv 0) pe_int (fun _ _ => rfl)))) pa_nil)) pe_int))
      (pss_cons (ps_set (i := 4) nn rfl (by first | exact .inl rfl | exact .inr rfl) (pe_op op_add (pe_op op_mod (pe_callTy call_int1 (by rfl) T.m_int bt_int (pa_cons (pv 3) pa_nil)) pe_int) pe_int))
      (pss_cons (ps_set (i := 5) nn rfl (by first | exact .inl rfl | exact .inr rfl) (pe_op op_mod (pe_callTy call_int1 (by rfl) T.m_int bt_int (pa_cons (pe_op op_mul (pe_op op_add (pe_op op_add (pv 3) (pe_ix (ixL K) (pv 0) pe_int (fun _ _ => rfl))) (pe_op op_fdiv (pe_ix (ixL K) (pv 0) pe_int (fun _ _ => rfl)) pe_int)) (pv 4)) pa_nil)) pe_int))
      (pss_one (ps_ret (pe_op op_mod (pe_callTy call_int1 (by rfl) T.m_int bt_int (pa_cons (pe_op op_fdiv (pe_op op_mod (pe_callTy call_int1 (by rfl) T.m_int bt_int (pa_cons (pe_op op_add (pe_op op_mul (pv 5) pe_int) (pv 3)) pa_nil)) pe_int) pe_int) pa_nil)) (pv 1))))))))), ?_⟩
    refine ⟨_, rfl, t, _, 0, _, rfl, rfl, SqL.of ht, atI_nat (j := 0) rfl, _, _, rfl, rfl, _, rfl, ?_⟩
    refine ite2 (fun c => ?_) (fun c => ?_)
    · refine ⟨_, rfl, t, _, 0, _, rfl, rfl, SqL.of ht, atI_nat (j := 0) rfl, .inl ⟨_, rfl, _, rfl, _, _, rfl, rfl, hb0, ?_⟩⟩
      refine ⟨_, rfl, t, _, 0, _, rfl, rfl, SqL.of ht, atI_nat (j := 0) rfl, _, rfl, _, _, rfl, rfl, ⟨hb0, by omega⟩, ?_⟩
      refine ⟨_, rfl, t, _, 0, 0, rfl, rfl, ht, rfl, ?_⟩
      exact ⟨_, rfl, hq _ _ _ _ (Int.emod_nonneg _ (by omega)) (Int.emod_lt_of_pos _ hb0) hz0 (by omega)⟩
    · refine ⟨_, rfl, t, _, 2, _, rfl, rfl, SqL.of ht, atI_nat (j := 2) rfl, _, _, rfl, rfl, ?_⟩
      refine ⟨_, rfl, t, _, 2, 2, rfl, rfl, ht, rfl, ?_⟩
      have h2 : SqL K (upd H t (.lst [.int x, .int y, .int (z + 1)])) t [.int x, .int y, .int (z + 1)] := SqL.of upd_same
      -- once
      refine ⟨_, rfl, t, _, 1, _, rfl, rfl, h2, atI_nat (j := 1) rfl, ?_⟩
      refine ⟨_, rfl, t, _, 2, _, rfl, rfl, h2, atI_nat (j := 2) rfl, _, _, rfl, rfl, .inl ⟨by decide, by decide⟩, _, _, rfl, rfl, ?_⟩
      refine ⟨_, rfl, t, _, 2, _, rfl, rfl, h2, atI_nat (j := 2) rfl, _, _, rfl, rfl, _, _, rfl, rfl, .inr ⟨by omega, by omega⟩, ?_⟩
      refine .inl ⟨_, rfl, _, _, rfl, rfl, (show (0 : Int) < 2147483647 by decide), ?_⟩
      generalize (y + 48271 * (z + 1)) * (39373 + (z + 1)) % 2147483647 = once
      -- wide
      refine ⟨_, rfl, .inl ⟨_, rfl, _, _, rfl, rfl, (show (0 : Int) < 40009 by decide), _, _, rfl, rfl, ?_⟩⟩
      -- twice
      refine ⟨_, rfl, _, rfl, t, _, 2, _, rfl, rfl, h2, atI_nat (j := 2) rfl, _, _, rfl, rfl, ?_⟩
      refine ⟨_, rfl, t, _, 1, _, rfl, rfl, h2, atI_nat (j := 1) rfl, _, _, rfl, rfl, ⟨by decide, by decide⟩, _, _, rfl, rfl, ?_⟩
      refine ⟨_, rfl, _, _, rfl, rfl, .inr ⟨by omega, by omega⟩, ?_⟩
      refine .inl ⟨_, rfl, _, _, rfl, rfl, (show (0 : Int) < 2147483629 by decide), ?_⟩
      generalize (once + (z + 1) + y / 1000003) * (once % 40009 + 7) % 2147483629 = twice
      refine ⟨_, rfl, _, _, rfl, rfl, .inr ⟨by decide, by decide⟩, _, rfl, _, _, rfl, rfl, ?_⟩
      refine .inl ⟨_, rfl, _, _, rfl, rfl, (show (0 : Int) < 2147483587 by decide), _, _, rfl, rfl, ⟨by decide, by decide⟩, ?_⟩
      refine .inl ⟨_, rfl, _, rfl, _, _, rfl, rfl, hb0, ?_⟩
      exact hq _ _ _ _ (Int.emod_nonneg _ (by omega)) (Int.emod_lt_of_pos _ hb0) (by omega) (by omega)
/-- one of a list of objects -/
def spOf : Sp := fun vs H Q _ => ∃ (t g : Addr) (ws : List V) (n : Nat), vs = [.ref t, .ref g] ∧ H g = some (.lst ws) ∧ Refs ws ∧ 0 < ws.length ∧ ws.length ≤ 1000 ∧ TinA H t n ∧ n ≤ 1000000 ∧ ∀ v o, v ∈ ws → TinA (upd H t o) t (n + 1) → Q v (upd H t o)
abbrev ns_l_of : List Str := ["_law_tin", "_law_goods_so"]
theorem sc_l_of : FnScope ns_l_of ["_law_tin", "_law_goods_so"] (defScope s_l_of) := ⟨rfl, rfl, rfl, by decide +kernel, rfl, by decide +kernel, by decide +kernel⟩
theorem ok_l_of (T : Tx K mg) : OkD P w K mg base 2 "_law_of" ["_law_tin", "_law_goods_so"] spOf := by
  have G_l_take : OkD P w K mg base 1 "_law_take" ["_law_tin", "_law_below_so"] spTake := ok_l_take T
  refine T.d_l_of.ok sc_l_of (fun vs H Q E h => ?_) (fun cdv A outer s H vs Q E hr h => ?_)
  · obtain ⟨t, g, ws, n, rfl, _⟩ := h
    rfl
  · obtain ⟨t, g, ws, n, rfl, hg, hrf, hw0, hw9, ht, hn, q⟩ := h
    have nn := sc_l_of.nd
    -- slots: 0 _law_tin, 1 _law_goods_so; calls: _law_take
    refine ⟨_, (pss_one (ps_ret (pe_ix (ixL K) (pv 1) (pe_c G_l_take hr (by decide) (pa_cons (pv 0) (pa_cons (pe_callB (cLen K) (by rfl) T.m_len bt_len (pa_cons (pv 1) pa_nil)) pa_nil))) (fun _ _ => rfl)))), ?_⟩
    refine ⟨_, rfl, _, rfl, _, rfl, g, ws, rfl, .inl (SqL.of hg), t, (ws.length : Int), n, rfl, by omega, by omega, ht, hn, fun r o hr2 ht2 => ?_⟩
    obtain ⟨v, ev⟩ := lt_get (l := ws) (i := r) (by omega)
    refine ⟨g, ws, r, v, rfl, rfl, SqL.of ?_, atI_nat ev, q v o (List.mem_of_getElem? ev) ht2⟩
    rw [upd_ne (ht.ne hg hrf.nt)]
    exact hg
/-- a row, shuffled -/
def spPick : Sp := fun vs H Q _ => ∃ (t g : Addr) (ws : List V) (n : Nat), vs = [.ref t, .ref g, .int ws.length] ∧ H g = some (.lst ws) ∧ Refs ws ∧ ws.length ≤ 100 ∧ TinA H t n ∧ n ≤ 100000 ∧
  ∀ a zs H', Fr t H H' → TinA H' t (n + ws.length) → H' a = some (.lst zs) → zs.Perm ws → Q (.ref a) H'
abbrev ns_l_pick : List Str := ["_law_tin", "_law_goods_so", "_law_count_so", "_law_pool_so", "_law_found", "_law_lap"]
theorem sc_l_pick : FnScope ns_l_pick ["_law_tin", "_law_goods_so", "_law_count_so"] (defScope s_l_pick) := ⟨rfl, rfl, rfl, by decide +kernel, rfl, by decide +kernel, by decide +kernel⟩
theorem ok_l_pick (T : Tx K mg) : OkD P w K mg base 2 "_law_pick" ["_law_tin", "_law_goods_so", "_law_count_so"] spPick := by
  have G_l_take : OkD P w K mg base 1 "_law_take" ["_law_tin", "_law_below_so"] spTake := ok_l_take T
  refine T.d_l_pick.ok sc_l_pick (fun vs H Q E h => ?_) (fun cdv A outer s H vs Q E hr h => ?_)
  · obtain ⟨t, g, ws, n, rfl, _⟩ := h
    rfl
  · obtain ⟨t, g, ws, n, rfl, hg, hrf, hw9, ht, hn, q⟩ := h
    have nn := sc_l_pick.nd
    -- slots: 0 _law_tin, 1 _law_goods_so, 2 _law_count_so, 3 _law_pool_so, 4 _law_found, 5 _law_lap; calls: _law_take
    refine ⟨_, (pss_cons (ps_par (i := 3) (j := 4) rfl nn rfl rfl (by decide) rfl rfl (pa_cons (pe_callTy (cLst K) (by rfl) T.m_list bt_list (pa_cons (pv 1) pa_nil)) (pa_cons (pe_lst pa_nil) pa_nil)) (by rfl))
      (pss_cons (ps_for PassesOwn.never rfl (pi_range1 (by rfl) T.m_range (pa_cons (pe_callB (call_min2 rfl) (by rfl) T.m_min bt_min (pa_cons (pe_callTy call_int1 (by rfl) T.m_int bt_int (pa_cons (pv 2) pa_nil)) (pa_cons (pe_callB (cLen K) (by rfl) T.m_len bt_len (pa_cons (pv 3) pa_nil)) pa_nil))) pa_nil)) (pg_name (i := 5) nn rfl (by first | exact .inl rfl | exact .inr rfl)) (pss_one (ps_expr (pe_bm PySem.F.plainAttrs_list PySem.F.slot_list_append PySem.F.type_list_append mt_append (pv 4) (pa_cons (pe_bm PySem.F.plainAttrs_list PySem.F.slot_list_pop PySem.F.type_list_pop mt_popAt (pv 3) (pa_cons (pe_c G_l_take hr (by decide) (pa_cons (pv 0) (pa_cons (pe_callB (cLen K) (by rfl) T.m_len bt_len (pa_cons (pv 3) pa_nil)) pa_nil))) pa_nil)) pa_nil)))))
      (pss_one (ps_ret (pv 4))))), ?_⟩
    refine ⟨_, rfl, g, ws, rfl, .inl (SqL.of hg), fun po npo => ?_⟩
    refine ⟨Nat.zero_le _, fun fo nfo => ?_⟩
    refine ⟨_, _, rfl, ?_⟩
    have sA : Same H (upd H po (.lst ws)) := sm_upd npo
    have nfo0 : H fo = none := sA.free nfo
    have sB := sA.trans (sm_upd nfo (o := .lst []))
    have hpf : po ≠ fo := ne_of_none upd_same nfo
    have hpo := sm_upd nfo (o := .lst []) _ _ (upd_same : (upd H po (.lst ws)) po = _)
    refine ⟨_, rfl, .inl ⟨_, rfl, _, rfl, po, ws, rfl, .inl (SqL.of hpo), _, _, rfl, ((ws.length : Nat) : Int), by rw [if_neg (by omega)], by omega, by omega, ?_⟩⟩
    rw [Int.toNat_natCast]
    refine for_it (walk_rng (n := ws.length)) (fun i σ H1 => ∃ ps zs y5, σ = [some (.ref t), some (.ref g), some (.int (ws.length : Nat)), some (.ref po), some (.ref fo), y5] ∧ Fr t H H1 ∧ TinA H1 t (n + i) ∧ H1 po = some (.lst ps) ∧ H1 fo = some (.lst zs) ∧ (zs ++ ps).Perm ws ∧ ps.length + i = ws.length)
      ⟨ws, [], _, rfl, Fr.of sB, ht.sm sB, hpo, upd_same, List.Perm.refl _, rfl⟩ (fun _ _ _ _ _ => trivial) (fun i x σ H1 H2 hi hp hY => ?_) (fun σ H1 hp => ?_)
    · obtain ⟨ps, zs, y5, rfl, f1, ht1, hp1, hf1, hpm, hpl⟩ := hp
      obtain ⟨rfl, rfl⟩ := hY
      have hmem : ∀ v ∈ zs ++ ps, ∃ a, v = .ref a := fun v hv => hrf v (hpm.mem_iff.mp hv)
      have hps : Refs ps := fun v hv => hmem v (List.mem_append_right _ hv)
      have hzs : Refs zs := fun v hv => hmem v (List.mem_append_left _ hv)
      have npt : po ≠ t := ht1.ne hp1 hps.nt
      have nft : fo ≠ t := ht1.ne hf1 hzs.nt
      have hzl : zs.length + ps.length = ws.length := by rw [← hpm.length_eq, List.length_append]
      refine ⟨_, rfl, .inl ⟨rfl, _, SqL.of hf1⟩, ?_⟩
      refine ⟨_, rfl, .inl ⟨rfl, _, SqL.of hp1⟩, ?_⟩
      refine ⟨_, rfl, _, rfl, po, ps, rfl, .inl (SqL.of hp1), t, (ps.length : Int), n + i, rfl, by omega, by omega, ht1, by omega, fun r o hr2 ht2 => ?_⟩
      have hp2 : (upd H2 t o) po = some (.lst ps) := by rw [upd_ne npt]; exact hp1
      have hf2 : (upd H2 t o) fo = some (.lst zs) := by rw [upd_ne nft]; exact hf1
      obtain ⟨v, ev⟩ := lt_get (l := ps) (i := r) (by omega)
      refine ⟨po, ps, (r : Int), r, v, rfl, rfl, hp2, by omega, by omega, ?_, ev, ?_⟩
      · exact seq_nat (by omega)
      have hf3 : (upd (upd H2 t o) po (.lst (ps.eraseIdx r))) fo = some (.lst zs) := by rw [upd_ne hpf.symm]; exact hf2
      have npo0 : H po = none := npo
      refine ⟨fo, zs, v, rfl, rfl, hf3, small1000 (by omega), ?_⟩
      have hel := List.length_eraseIdx_of_lt (l := ps) (i := r) (by omega)
      refine ⟨ps.eraseIdx r, zs ++ [v], _, rfl, ((f1.trans (Fr.t o)).upd2 npo0).upd2 nfo0, ?_, ?_, upd_same, ?_, by omega⟩
      · exact (ht2.upd2 hp2 hps.nt).upd2 hf3 hzs.nt
      · rw [upd_ne hpf]
        exact upd_same
      · refine List.Perm.trans ?_ hpm
        rw [List.append_assoc]
        refine List.Perm.append_left zs ?_
        show (v :: ps.eraseIdx r).Perm ps
        exact perm_erase ev
    · obtain ⟨ps, zs, y5, rfl, f1, ht1, hp1, hf1, hpm, hpl⟩ := hp
      have e : ps = [] := List.eq_nil_of_length_eq_zero (by omega)
      subst e
      rw [List.append_nil] at hpm
      exact ⟨_, rfl, q fo zs H1 f1 ht1 hf1 hpm⟩
end
end Hp5

set_option maxHeartbeats 4000000
namespace Hp5
open PySem PySem.Spec PyProof.Rows L2
theorem iteNe {x y : V} {A B : Prop} (h : x = y) (b : B) : if (!decide (x = y)) = true then A else B := by
  rw [decide_eq_true h]
  exact iteF b
theorem eq_false {x y : V} (h : x ≠ y) : decide (x = y) = false := decide_eq_false h
theorem upd_pr {H : Hp} {p : Addr} {i j i' j' : Int} (e : i = i') (f : j = j') : (upd H p (.tup [.int i, .int j])) p = some (.tup [.int i', .int j']) := by rw [upd_same, e, f]
/-! skins, compared -/
def rowP (r : List Pr) : PyData := .tuple (r.map prP)
def skP (S : Skin) : PyData := .tuple (S.map rowP)
theorem dp_row {K : PySem.W.Frag} {H : Hp} {v : V} {r : List Pr} (h : Is H v (rowD r)) : Dp K H v (rowP r) := by
  obtain ⟨a, vs, rfl, ha, hvs⟩ := h.tupE
  exact .tup (SqT.of ha) (dpa_prs hvs)
theorem dpa_rows {K : PySem.W.Frag} {H : Hp} : ∀ {xs : List V} {l : List (List Pr)}, IsAll H xs (l.map rowD) → DpAll K H xs (l.map rowP)
  | _, [], h => by
    cases h
    exact .nil
  | _, p :: r, h => by
    cases h with
    | cons h1 h2 => exact .cons (dp_row h1) (dpa_rows h2)
theorem dp_sk {K : PySem.W.Frag} {H : Hp} {v : V} {S : Skin} (h : Is H v (skD S)) : Dp K H v (skP S) := by
  obtain ⟨a, vs, rfl, ha, hvs⟩ := h.tupE
  exact .tup (SqT.of ha) (dpa_rows hvs)
theorem rows_lay : ∀ l : List (List Pr), PyData.canLayAll0 (l.map rowP) = true
  | [] => by simp [PyData.canLayAll0]
  | p :: r => by
    have h1 : (rowP p).canLay0 = true := by simp [rowP, PyData.canLay0, prs_lay]
    have ih := rows_lay r
    simp [PyData.canLayAll0, h1, ih]
theorem rows_deep : ∀ l : List (List Pr), PyData.depthAll (l.map rowP) ≤ 2
  | [] => by simp [PyData.depthAll]
  | p :: r => by
    have h2 : (rowP p).depth ≤ 2 := by
      have := prs_deep p
      simp only [rowP, PyData.depth]
      omega
    have ih := rows_deep r
    simp only [List.map_cons, PyData.depthAll]
    omega
theorem sk_shaped (S : Skin) : SeqAt.shaped (skP S) = true := by
  show ((skP S).canLay0 && decide ((skP S).depth ≤ 64)) = true
  have h1 : (skP S).canLay0 = true := by simp [skP, PyData.canLay0, rows_lay]
  have h2 : (skP S).depth ≤ 64 := by
    have := rows_deep S
    simp only [skP, PyData.depth]
    omega
  rw [h1, decide_eq_true h2] <;> rfl
theorem nil_shaped : SeqAt.shaped (.tuple []) = true := by decide
theorem sk_eqv_nil {S : Skin} (h : 0 < S.length) : PyData.eqv (skP S) (.tuple []) = false := by
  cases S with
  | nil => exact absurd h (by decide)
  | cons p r => simp [skP, PyData.eqv, PyData.eqvAll]
section
variable {P : Program} {w : World} {K : PySem.W.Frag} {mg : Str → Option Value} {base : Heap}
def spGate : Sp := fun vs H Q _ => ∃ (v : V) (p : Pr) (n : Nat), vs = [v, .int n] ∧ Is H v (prD p) ∧ p.1 < n ∧ p.2 < 4 ∧ Q (.bl true) H
abbrev ns_l_is_gate : List Str := ["_law_matter", "_law_many_so"]
theorem sc_l_is_gate : FnScope ns_l_is_gate ["_law_matter", "_law_many_so"] (defScope s_l_is_gate) := ⟨rfl, rfl, rfl, by decide +kernel, rfl, by decide +kernel, by decide +kernel⟩
theorem ok_l_is_gate (T : Tx K mg) : OkD P w K mg base 2 "_law_is_gate" ["_law_matter", "_law_many_so"] spGate := by
  have G_l_is_number : OkD P w K mg base 1 "_law_is_number" ["_law_own"] spNum := ok_l_is_number T
  refine T.d_l_is_gate.ok sc_l_is_gate (fun vs H Q E h => ?_) (fun cdv A outer s H vs Q E hr h => ?_)
  · obtain ⟨v, p, n, rfl, _⟩ := h
    rfl
  · obtain ⟨v, p, n, rfl, hv, h1, h2, q⟩ := h
    obtain ⟨a, rfl, ha⟩ := hv.prE
    have nn := sc_l_is_gate.nd
    -- slots: 0 _law_matter, 1 _law_many_so; calls: _law_is_number
    refine ⟨_, (pss_cons (ps_if (PW.pt (pw_or (pt_not (pt_val (pe_callB (cIsi K) (by rfl) T.m_isinstance bt_isinstance (pa_cons (pv 0) (pa_cons (pe_bltn (by rfl) T.m_tuple bt_tuple rfl (v := .ty "tuple")) pa_nil))))) (pw_or (pt_cmpR op_ne (pe_callB (cLen K) (by rfl) T.m_len bt_len (pa_cons (pv 0) pa_nil)) pe_int (nomark _)) (pw_or (pt_not (pt_val (pe_c G_l_is_number hr (by decide) (pa_cons (pe_ix (ixT K) (pv 0) pe_int (fun _ _ => rfl)) pa_nil)))) (pw_or1 (pt_not (pt_val (pe_c G_l_is_number hr (by decide) (pa_cons (pe_ix (ixT K) (pv 0) pe_int (fun _ _ => rfl)) pa_nil))))))))) (pss_one (ps_ret pe_bl)) pss_nil)
      (pss_one (ps_ret (pe_and (pe_chain op_le op_lt pe_int (pe_ix (ixT K) (pv 0) pe_int (fun _ _ => rfl)) (pv 1)) (pe_one (pe_chain op_le op_lt pe_int (pe_ix (ixT K) (pv 0) pe_int (fun _ _ => rfl)) pe_int)))))), ?_⟩
    refine ⟨_, rfl, _, _, _, _, true, rfl, .ty _, .base (.tup ha), kt_tt, true, rfl, iteF ?_⟩
    refine ⟨_, rfl, a, _, rfl, .inr (SqT.of ha), rfl, _, rfl, iteNe rfl ?_⟩
    refine ⟨_, rfl, a, _, 0, _, rfl, rfl, SqT.of ha, atI_nat (j := 0) rfl, _, rfl, true, rfl, iteF ?_⟩
    refine ⟨_, rfl, a, _, 1, _, rfl, rfl, SqT.of ha, atI_nat (j := 1) rfl, _, rfl, true, rfl, iteF ?_⟩
    refine ⟨_, rfl, a, _, 0, _, rfl, rfl, SqT.of ha, atI_nat (j := 0) rfl, _, _, rfl, rfl, true, congrArg V.bl (decide_eq_true (by omega)), iteT ?_⟩
    refine ⟨_, rfl, _, _, rfl, rfl, true, congrArg V.bl (decide_eq_true (by omega)), iteT ?_⟩
    refine ⟨_, rfl, a, _, 1, _, rfl, rfl, SqT.of ha, atI_nat (j := 1) rfl, _, _, rfl, rfl, true, congrArg V.bl (decide_eq_true (by omega)), iteT ?_⟩
    refine ⟨_, _, rfl, rfl, ?_⟩
    show Q (.bl (decide ((p.2 : Int) < 4))) H
    rw [decide_eq_true (by omega)]
    exact q
def spSq : Sp := fun vs H Q _ => ∃ (m h : Nat), vs = [.int m, .int h] ∧ 0 < m ∧ m ≤ 12 ∧ 0 < h ∧ h ≤ 12 ∧ m * h ≤ 12 ∧ ∀ v' H', Same H H' → Is H' v' (skD (squareM m h)) → Q v' H'
abbrev ns_l_square : List Str := ["_law_wide_so", "_law_high_so", "_law_found", "_law_k", "_law_x", "_law_y", "_law_right_so", "_law_left_so", "_law_up_so", "_law_down_so"]
theorem sc_l_square : FnScope ns_l_square ["_law_wide_so", "_law_high_so"] (defScope s_l_square) := ⟨rfl, rfl, rfl, by decide +kernel, rfl, by decide +kernel, by decide +kernel⟩
theorem ok_l_square (T : Tx K mg) : OkD P w K mg base 1 "_law_square" ["_law_wide_so", "_law_high_so"] spSq := by
  refine T.d_l_square.ok sc_l_square (fun vs H Q E h => ?_) (fun cdv A outer s H vs Q E hr h => ?_)
  · obtain ⟨m, h, rfl, _⟩ := h
    rfl
  · obtain ⟨m, h, rfl, hm0, hm9, hh0, hh9, hmh, q⟩ := h
    have nn := sc_l_square.nd
    -- slots: 0 _law_wide_so, 1 _law_high_so, 2 _law_found, 3 _law_k, 4 _law_x, 5 _law_y, 6 _law_right_so, 7 _law_left_so, 8 _law_up_so, 9 _law_down_so; calls:
    refine ⟨_, (pss_cons (ps_set (i := 2) nn rfl (by first | exact .inl rfl | exact .inr rfl) (pe_lst pa_nil))
      (pss_cons (ps_for PassesOwn.never rfl (pi_range1 (by rfl) T.m_range (pa_cons (pe_op op_mul (pv 0) (pv 1)) pa_nil)) (pg_name (i := 3) nn rfl (by first | exact .inl rfl | exact .inr rfl)) (pss_cons (ps_par (i := 4) (j := 5) rfl nn rfl rfl (by decide) rfl rfl (pa_cons (pe_op op_mod (pe_callTy call_int1 (by rfl) T.m_int bt_int (pa_cons (pv 3) pa_nil)) (pv 0)) (pa_cons (pe_op op_fdiv (pv 3) (pv 0)) pa_nil)) (by rfl))
      (pss_cons (ps_par (i := 6) (j := 7) rfl nn rfl rfl (by decide) rfl rfl (pa_cons (pe_op op_mod (pe_callTy call_int1 (by rfl) T.m_int bt_int (pa_cons (pe_op op_add (pv 4) pe_int) pa_nil)) (pv 0)) (pa_cons (pe_op op_mod (pe_callTy call_int1 (by rfl) T.m_int bt_int (pa_cons (pe_op op_sub (pe_op op_add (pv 4) (pv 0)) pe_int) pa_nil)) (pv 0)) pa_nil)) (by rfl))
      (pss_cons (ps_par (i := 8) (j := 9) rfl nn rfl rfl (by decide) rfl rfl (pa_cons (pe_op op_mod (pe_callTy call_int1 (by rfl) T.m_int bt_int (pa_cons (pe_op op_add (pv 5) pe_int) pa_nil)) (pv 1)) (pa_cons (pe_op op_mod (pe_callTy call_int1 (by rfl) T.m_int bt_int (pa_cons (pe_op op_sub (pe_op op_add (pv 5) (pv 1)) pe_int) pa_nil)) (pv 1)) pa_nil)) (by rfl))
      (pss_one (ps_expr (pe_bm PySem.F.plainAttrs_list PySem.F.slot_list_append PySem.F.type_list_append mt_append (pv 2) (pa_cons (pe_tup (pa_cons (pe_tup (pa_cons (pe_op op_add (pe_op op_mul (pv 5) (pv 0)) (pv 6)) (pa_cons pe_int pa_nil))) (pa_cons (pe_tup (pa_cons (pe_op op_add (pe_op op_mul (pv 8) (pv 0)) (pv 4)) (pa_cons pe_int pa_nil))) (pa_cons (pe_tup (pa_cons (pe_op op_add (pe_op op_mul (pv 5) (pv 0)) (pv 7)) (pa_cons pe_int pa_nil))) (pa_cons (pe_tup (pa_cons (pe_op op_add (pe_op op_mul (pv 9) (pv 0)) (pv 4)) (pa_cons pe_int pa_nil))) pa_nil))))) pa_nil))))))))
      (pss_one (ps_ret (pe_callTy (cTup K) (by rfl) T.m_tuple bt_tuple (pa_cons (pv 2) pa_nil)))))), ?_⟩
    refine ⟨Nat.zero_le _, fun fo nfo => ?_⟩
    have s0 : Same H (upd H fo (.lst [])) := sm_upd nfo
    refine ⟨_, rfl, _, rfl, _, _, rfl, rfl, .inl ⟨by omega, by omega⟩, ((m * h : Nat) : Int), by rw [Int.natCast_mul], by omega, by omega, ?_⟩
    rw [Int.toNat_natCast]
    refine for_it (walk_rng (n := m * h)) (fun k σ H1 => ∃ ws y3 y4 y5 y6 y7 y8 y9, σ = [some (.int (m : Nat)), some (.int (h : Nat)), some (.ref fo), y3, y4, y5, y6, y7, y8, y9] ∧ Same H H1 ∧ H1 fo = some (.lst ws) ∧ IsAll H1 ws (((List.range k).map (sqRow m h)).map rowD))
      ⟨[], _, _, _, _, _, _, _, rfl, s0, upd_same, .nil⟩ (fun _ _ _ _ _ => trivial) (fun k x σ H1 H2 hk hp hY => ?_) (fun σ H1 hp => ?_)
    · obtain ⟨ws, y3, y4, y5, y6, y7, y8, y9, rfl, s1, hfo, hws⟩ := hp
      obtain ⟨rfl, rfl⟩ := hY
      have em : (0 : Int) < (m : Nat) := by omega
      have eh : (0 : Int) < (h : Nat) := by omega
      obtain ⟨X, ek⟩ : ∃ X, k % m = X := ⟨_, rfl⟩
      obtain ⟨Y, ey⟩ : ∃ Y, k / m = Y := ⟨_, rfl⟩
      have e1 : ((k : Nat) : Int) % (m : Nat) = (X : Nat) := ek ▸ (Int.natCast_emod k m).symm
      have e2 : ((k : Nat) : Int) / (m : Nat) = (Y : Nat) := ey ▸ (Int.natCast_ediv k m).symm
      refine ⟨_, rfl, .inl ⟨_, rfl, _, rfl, _, _, rfl, rfl, em, ?_⟩⟩
      refine ⟨_, rfl, _, rfl, _, _, rfl, rfl, ⟨em, by omega⟩, _, _, congr (congrArg List.cons (congrArg V.int e1)) (congrArg (fun z => [V.int z]) e2), ?_⟩
      have e3 : (((X : Nat) : Int) + 1) % (m : Nat) = (((X + 1) % m : Nat) : Int) := (Int.natCast_emod (X + 1) m).symm
      have e4 : (((X : Nat) : Int) + (m : Nat) - 1) % (m : Nat) = (((X + (m - 1)) % m : Nat) : Int) := by
        rw [show ((X : Nat) : Int) + (m : Nat) - 1 = ((X + (m - 1) : Nat) : Int) by omega]
        exact (Int.natCast_emod (X + (m - 1)) m).symm
      have e5 : (((Y : Nat) : Int) + 1) % (h : Nat) = (((Y + 1) % h : Nat) : Int) := (Int.natCast_emod (Y + 1) h).symm
      have e6 : (((Y : Nat) : Int) + (h : Nat) - 1) % (h : Nat) = (((Y + (h - 1)) % h : Nat) : Int) := by
        rw [show ((Y : Nat) : Int) + (h : Nat) - 1 = ((Y + (h - 1) : Nat) : Int) by omega]
        exact (Int.natCast_emod (Y + (h - 1)) h).symm
      refine ⟨_, rfl, _, _, rfl, rfl, .inl ⟨_, rfl, _, rfl, _, _, rfl, rfl, em, ?_⟩⟩
      refine ⟨_, rfl, _, rfl, _, _, rfl, rfl, _, _, rfl, rfl, .inl ⟨_, rfl, _, rfl, _, _, rfl, rfl, em, _, _, congr (congrArg List.cons (congrArg V.int e3)) (congrArg (fun z => [V.int z]) e4), ?_⟩⟩
      refine ⟨_, rfl, _, _, rfl, rfl, .inl ⟨_, rfl, _, rfl, _, _, rfl, rfl, eh, ?_⟩⟩
      refine ⟨_, rfl, _, rfl, _, _, rfl, rfl, _, _, rfl, rfl, .inl ⟨_, rfl, _, rfl, _, _, rfl, rfl, eh, _, _, congr (congrArg List.cons (congrArg V.int e5)) (congrArg (fun z => [V.int z]) e6), ?_⟩⟩
      have hcm : ∀ i : Int, CMul i ((m : Nat) : Int) := fun i => .inr ⟨by omega, by omega⟩
      refine ⟨_, rfl, .inl ⟨rfl, _, SqL.of hfo⟩, ?_⟩
      refine ⟨_, rfl, _, rfl, _, _, rfl, rfl, hcm _, _, rfl, _, _, rfl, rfl, tup2_line, fun p1 np1 => ?_⟩
      refine ⟨_, rfl, _, rfl, _, _, rfl, rfl, hcm _, _, rfl, _, _, rfl, rfl, tup2_line, fun p2 np2 => ?_⟩
      refine ⟨_, rfl, _, rfl, _, _, rfl, rfl, hcm _, _, rfl, _, _, rfl, rfl, tup2_line, fun p3 np3 => ?_⟩
      refine ⟨_, rfl, _, rfl, _, _, rfl, rfl, hcm _, _, rfl, _, _, rfl, rfl, tup2_line, fun p4 np4 => ?_⟩
      refine ⟨(show 4 ≤ sizeLine by decide), fun t nt => ?_⟩
      have hwl := hws.length
      rw [List.length_map, List.length_map, List.length_range] at hwl
      have hq1 := upd_pr (H := H2) (p := p1) (i := ((Y : Nat) : Int) * (m : Nat) + (((X + 1) % m : Nat) : Int)) (j := 2) (i' := ((Y * m + (X + 1) % m : Nat) : Int)) (j' := ((2 : Nat) : Int)) (by rw [Int.natCast_add, Int.natCast_mul]) rfl
      have c2 := sm_upd np2 (o := .tup [.int ((((Y + 1) % h : Nat) : Int) * (m : Nat) + ((X : Nat) : Int)), .int 3])
      have c3 := sm_upd np3 (o := .tup [.int (((Y : Nat) : Int) * (m : Nat) + (((X + (m - 1)) % m : Nat) : Int)), .int 0])
      have c4 := sm_upd np4 (o := .tup [.int ((((Y + (h - 1)) % h : Nat) : Int) * (m : Nat) + ((X : Nat) : Int)), .int 1])
      have c1 := sm_upd np1 (o := .tup [.int (((Y : Nat) : Int) * (m : Nat) + (((X + 1) % m : Nat) : Int)), .int 2])
      have c5 := sm_upd nt (o := .tup [.ref p1, .ref p2, .ref p3, .ref p4])
      have cc := (((c1.trans c2).trans c3).trans c4).trans c5
      have hfo5 := cc _ _ hfo
      refine ⟨fo, ws, _, rfl, rfl, hfo5, small1000 (by omega), ?_⟩
      have tp := Tps.upd (o := .lst (ws ++ [.ref t])) hfo5
      refine ⟨ws ++ [.ref t], _, _, _, _, _, _, _, rfl, sm_upd2 (s1.trans cc) nfo, upd_same, ?_⟩
      rw [List.range_succ, List.map_append, List.map_append]
      refine (IsAll.tp ((Tps.of cc).trans tp) _ _ (tu_rows _) hws).append (.cons ?_ .nil)
      refine .tup (tp _ _ upd_same) (IsAll.tp tp _ _ (tu_prs _) ?_)
      show IsAll _ [.ref p1, .ref p2, .ref p3, .ref p4] ((sqRow m h k).map prD)
      unfold sqRow
      rw [ek, ey]
      refine .cons (prD_is ?_) (.cons (prD_is ?_) (.cons (prD_is ?_) (.cons (prD_is ?_) .nil)))
      · exact c5 _ _ (c4 _ _ (c3 _ _ (c2 _ _ hq1)))
      · exact c5 _ _ (c4 _ _ (c3 _ _ (upd_pr (by rw [Int.natCast_add, Int.natCast_mul]) rfl)))
      · exact c5 _ _ (c4 _ _ (upd_pr (by rw [Int.natCast_add, Int.natCast_mul]) rfl))
      · exact c5 _ _ (upd_pr (by rw [Int.natCast_add, Int.natCast_mul]) rfl)
    · obtain ⟨ws, y3, y4, y5, y6, y7, y8, y9, rfl, s1, hfo, hws⟩ := hp
      exact ⟨_, rfl, fo, ws, rfl, .inl ⟨SqL.of hfo, fun r nr => q _ _ (s1.trans (sm_upd nr)) (.tup upd_same (hws.sm (sm_upd nr)))⟩⟩
end
end Hp5

set_option maxHeartbeats 4000000
namespace Hp5
open PySem PySem.Spec PyProof.Rows L2
def lvV (v : List Nat) : List V := v.map fun x => V.int ((x : Nat) : Int)
theorem lvV_len (v : List Nat) : (lvV v).length = v.length := List.length_map _
theorem lvV_get {v : List Nat} {i : Nat} (h : i < v.length) : (lvV v)[i]? = some (.int ((v.getD i 0 : Nat) : Int)) := by
  unfold lvV
  rw [List.getElem?_map, List.getD_eq_getElem?_getD, List.getElem?_eq_getElem h] <;> rfl
theorem lvV_set (v : List Nat) (i x : Nat) : (lvV v).set i (.int (x : Nat)) = lvV (v.set i x) := by
  unfold lvV
  rw [List.map_set]
theorem lvV_rg (n : Nat) : rgV 0 (n : Nat) = lvV (List.range n) := by
  unfold rgV lvV
  rw [show (((n : Nat) : Int) - 0).toNat = n by omega]
  refine List.map_congr_left fun i _ => ?_
  rw [Int.zero_add]
theorem lvV_ints (v : List Nat) : lvV v = (v.map fun x => ((x : Nat) : Int)).map V.int := by
  unfold lvV
  rw [List.map_map] <;> rfl
theorem ixN_nat {n i : Nat} (h : i < n) : ixN n (i : Nat) = some i := by
  unfold ixN
  rw [if_pos (by omega), if_pos (by omega), Int.toNat_natCast]
theorem set_zero {v : List Nat} {r : Bool} (hr : r = true → ∀ k, (fm (v.map fun x => ((x : Nat) : Int))).any (· == k) = true → (fm [(0 : Int)]).any (· == k) = true) (h : r = true) {f : Nat} (hf : f < v.length) : v.getD f 0 = 0 := by
  have e : v.getD f 0 ∈ v := by
    rw [List.getD_eq_getElem?_getD, List.getElem?_eq_getElem hf]
    exact List.getElem_mem hf
  have := hr h ((v.getD f 0 : Nat) : Int) (fm_mem.mpr (List.mem_map.mpr ⟨_, e, rfl⟩))
  have := fm_mem.mp this
  rw [List.mem_singleton] at this
  omega
section
variable {P : Program} {w : World} {K : PySem.W.Frag} {mg : Str → Option Value} {base : Heap}
def spSewn : Sp := fun vs H Q _ => ∃ (v : V) (S : Skin), vs = [v] ∧ Is H v (skD S) ∧ Shaped S ∧ ∀ b H', Same H H' → (b = true → Valid S) → Q (.bl b) H'
abbrev ns_l_is_sewn : List Str := ["_law_matter", "_law_f", "_law_a", "_law_own", "_law_lots_so", "_law_lap", "_law_g", "_law_b", "_law_low_so", "_law_row"]
theorem sc_l_is_sewn : FnScope ns_l_is_sewn ["_law_matter"] (defScope s_l_is_sewn) := ⟨rfl, rfl, rfl, by decide +kernel, rfl, by decide +kernel, by decide +kernel⟩
theorem ok_l_is_sewn (T : Tx K mg) : OkD P w K mg base 3 "_law_is_sewn" ["_law_matter"] spSewn := by
  have G_l_is_gate : OkD P w K mg base 2 "_law_is_gate" ["_law_matter", "_law_many_so"] spGate := ok_l_is_gate T
  refine T.d_l_is_sewn.ok sc_l_is_sewn (fun vs H Q E h => ?_) (fun cdv A outer s H vs Q E hr h => ?_)
  · obtain ⟨v, S, rfl, _⟩ := h
    rfl
  · obtain ⟨v, S, rfl, hv, sh, q⟩ := h
    obtain ⟨sa, us, rfl, hsa, hul, hrow⟩ := row_at hv
    have nn := sc_l_is_sewn.nd
    have few := sh.few
    have pos := sh.pos
    have hu64 := hr.units
    have hu0 := hr.units0
    -- slots: 0 _law_matter, 1 _law_f, 2 _law_a, 3 _law_own, 4 _law_lots_so, 5 _law_lap, 6 _law_g, 7 _law_b, 8 _law_low_so, 9 _law_row; calls: _law_is_gate
    refine ⟨_, (pss_cons (ps_if (PW.pt (pw_or (pt_not (pt_val (pe_callB (cIsi K) (by rfl) T.m_isinstance bt_isinstance (pa_cons (pv 0) (pa_cons (pe_bltn (by rfl) T.m_tuple bt_tuple rfl (v := .ty "tuple")) pa_nil))))) (pw_or (pt_cmpR (oEqD K hu64) (pv 0) (pe_tup pa_nil) (nomark _)) (pw_or1 (pt_cmpR (oNeD K hu64) (pe_lc (own := [("_law_row", 9)]) (g := gName 9) rfl nn (piT K (pv 0)) (blkOk_by (N := ns_l_is_sewn) (sc := defScope s_l_is_sewn) (by decide +kernel)) (fun _ _ _ _ _ => (pg_name (i := 9) nn rfl (by first | exact .inl rfl | exact .inr rfl))) (fun _ _ _ _ _ => (pts_one (PW.pt (pw_or (pt_not (pt_val (pe_callB (cIsi K) (by rfl) T.m_isinstance bt_isinstance (pa_cons (pv 9) (pa_cons (pe_bltn (by rfl) T.m_tuple bt_tuple rfl (v := .ty "tuple")) pa_nil))))) (pw_or1 (pt_cmpR op_ne (pe_callB (cLen K) (by rfl) T.m_len bt_len (pa_cons (pv 9) pa_nil)) pe_int (nomark _))))))) (fun _ _ _ _ _ => pe_int)) (pe_lst pa_nil) (nomark _)))))) (pss_one (ps_ret pe_bl)) pss_nil)
      (pss_cons (ps_for PassesOwn.never rfl (pi_range1 (by rfl) T.m_range (pa_cons (pe_callB (cLen K) (by rfl) T.m_len bt_len (pa_cons (pv 0) pa_nil)) pa_nil)) (pg_name (i := 1) nn rfl (by first | exact .inl rfl | exact .inr rfl)) (pss_one (ps_for PassesOwn.never rfl (pi_range1 (by rfl) T.m_range (pa_cons pe_int pa_nil)) (pg_name (i := 2) nn rfl (by first | exact .inl rfl | exact .inr rfl)) (pss_cons (ps_set (i := 3) nn rfl (by first | exact .inl rfl | exact .inr rfl) (pe_ix (ixT K) (pe_ix (ixT K) (pv 0) (pv 1) (fun _ _ => rfl)) (pv 2) (fun _ _ => rfl)))
      (pss_one (ps_if (PW.pt (pw_or (pt_not (pt_val (pe_c G_l_is_gate hr (by decide) (pa_cons (pv 3) (pa_cons (pe_callB (cLen K) (by rfl) T.m_len bt_len (pa_cons (pv 0) pa_nil)) pa_nil))))) (pw_or1 (pt_cmpR (oEqD K hu64) (pv 3) (pe_tup (pa_cons (pv 1) (pa_cons (pv 2) pa_nil))) (nomark _))))) (pss_one (ps_ret pe_bl)) pss_nil))))))
      (pss_cons (ps_for PassesOwn.never rfl (pi_range1 (by rfl) T.m_range (pa_cons (pe_callB (cLen K) (by rfl) T.m_len bt_len (pa_cons (pv 0) pa_nil)) pa_nil)) (pg_name (i := 1) nn rfl (by first | exact .inl rfl | exact .inr rfl)) (pss_one (ps_for PassesOwn.never rfl (pi_range1 (by rfl) T.m_range (pa_cons pe_int pa_nil)) (pg_name (i := 2) nn rfl (by first | exact .inl rfl | exact .inr rfl)) (pss_one (ps_if (pt_cmpR (oNeD K hu64) (pe_ix (ixT K) (pe_ix (ixT K) (pv 0) (pe_ix (ixT K) (pe_ix (ixT K) (pe_ix (ixT K) (pv 0) (pv 1) (fun _ _ => rfl)) (pv 2) (fun _ _ => rfl)) pe_int (fun _ _ => rfl)) (fun _ _ => rfl)) (pe_ix (ixT K) (pe_ix (ixT K) (pe_ix (ixT K) (pv 0) (pv 1) (fun _ _ => rfl)) (pv 2) (fun _ _ => rfl)) pe_int (fun _ _ => rfl)) (fun _ _ => rfl)) (pe_tup (pa_cons (pv 1) (pa_cons (pv 2) pa_nil))) (nomark _)) (pss_one (ps_ret pe_bl)) pss_nil)))))
      (pss_cons (ps_set (i := 4) nn rfl (by first | exact .inl rfl | exact .inr rfl) (pe_listRg rfl (by rfl) T.m_list (prg_1 (by rfl) T.m_range (pe_callB (cLen K) (by rfl) T.m_len bt_len (pa_cons (pv 0) pa_nil)))))
      (pss_cons (ps_for PassesOwn.never rfl (pi_range1 (by rfl) T.m_range (pa_cons (pe_callB (cLen K) (by rfl) T.m_len bt_len (pa_cons (pv 0) pa_nil)) pa_nil)) (pg_name (i := 5) nn rfl (by first | exact .inl rfl | exact .inr rfl)) (pss_one (ps_for PassesOwn.never rfl (pi_range1 (by rfl) T.m_range (pa_cons (pe_callB (cLen K) (by rfl) T.m_len bt_len (pa_cons (pv 0) pa_nil)) pa_nil)) (pg_name (i := 1) nn rfl (by first | exact .inl rfl | exact .inr rfl)) (pss_one (ps_for PassesOwn.never rfl (piT K (pe_ix (ixT K) (pv 0) (pv 1) (fun _ _ => rfl))) (pgT K (n := 2) (pgs_cons (pg_name (i := 6) nn rfl (by first | exact .inl rfl | exact .inr rfl)) (pgs_cons (pg_name (i := 7) nn rfl (by first | exact .inl rfl | exact .inr rfl)) pgs_nil))) (pss_cons (ps_set (i := 8) nn rfl (by first | exact .inl rfl | exact .inr rfl) (pe_callB (call_min2 rfl) (by rfl) T.m_min bt_min (pa_cons (pe_ix (ixL K) (pv 4) (pv 1) (fun _ _ => rfl)) (pa_cons (pe_ix (ixL K) (pv 4) (pv 6) (fun _ _ => rfl)) pa_nil))))
      (pss_one (ps_asg (pe_tup (pa_cons (pv 8) (pa_cons (pv 8) pa_nil))) (pgT K (n := 2) (pgs_cons (pg_sub (pv 4) (pv 1) set_list) (pgs_cons (pg_sub (pv 4) (pv 6) set_list) pgs_nil)))))))))))
      (pss_one (ps_ret (pe_cmpR (op_eqSet hu0) (pe_callTy (cSet K) (by rfl) T.m_set bt_set (pa_cons (pv 4) pa_nil)) (pe_callTy (cSet K) (by rfl) T.m_set bt_set (pa_cons (pe_lst (pa_cons pe_int pa_nil)) pa_nil)) (nomark _))))))))), ?_⟩
    refine ⟨_, rfl, _, _, _, _, true, rfl, .ty _, .base (.tup hsa), kt_tt, true, rfl, iteF ?_⟩
    refine ⟨_, rfl, Nat.zero_le _, fun e0 ne0 => ?_⟩
    have s0 := sm_upd ne0 (o := .tup [])
    refine ⟨skP S, .tuple [], dp_sk (hv.sm s0), .tup (SqT.of upd_same) .nil, sk_shaped S, nil_shaped, _, rfl, ?_⟩
    rw [sk_eqv_nil pos]
    refine iteF ?_
    refine ⟨_, rfl, sa, rfl, ⟨us, SqT.of (s0 _ _ hsa)⟩, fun D nD => ?_⟩
    refine lc_if (walk_tup (K := K) (a := sa) (xs := us)) (List.replicate us.length none) List.length_replicate (by omega) nD (fun H1 s1 => SqT.of (s1 _ _ (s0 _ _ hsa))) (fun d hd => by cases (List.mem_replicate.mp hd).2) (fun i x H1 H2 o C Z hi ho s1 hY hC hZ => ?_) (fun H1 zs s1 hD hzs => ?_)
    · obtain ⟨rfl, hx⟩ := hY
      have eo := rep_get ho
      obtain ⟨r, er⟩ := lt_get (l := S) (i := i) (by omega)
      obtain ⟨b, rs, eb, hb, hrl, _⟩ := hrow i r er
      obtain rfl : x = .ref b := Option.some.inj (hx.symm.trans eb)
      have h4 := (sh.row r (List.mem_of_getElem? er)).1
      have hb2 := s1 _ _ (s0 _ _ hb)
      refine ⟨rfl, ?_⟩
      refine ⟨_, rfl, _, _, _, _, true, rfl, .ty _, .base (.tup hb2), kt_tt, true, rfl, iteF ?_⟩
      exact ⟨_, rfl, b, rs, rfl, .inr (SqT.of hb2), rfl, _, rfl, iteNe (by rw [hrl, h4] <;> rfl) (hZ eo _ (Same.refl _))⟩
    have ez : zs = [] := by
      have : (List.replicate us.length (none : Option Dt)).filterMap id = [] := by
        rw [List.filterMap_replicate_of_none] <;> rfl
      rw [this] at hzs
      cases hzs
      rfl
    subst ez
    refine ⟨Nat.zero_le _, fun e1 ne1 => ?_⟩
    have s2 := s1.trans (sm_upd ne1 (o := .lst []))
    refine ⟨.list [], .list [], .lst (SqL.of (sm_upd ne1 _ _ hD)) .nil, .lst (SqL.of upd_same) .nil, prs_shaped [], prs_shaped [], _, rfl, ?_⟩
    rw [show PyData.eqv (.list []) (.list []) = true from by simp [PyData.eqv, PyData.eqvAll]]
    refine iteF ?_
    have sB := s0.trans s2
    -- gates, and none to itself
    refine ⟨_, rfl, sa, us, rfl, .inr (SqT.of (sB _ _ hsa)), (us.length : Int), rfl, by omega, by omega, ?_⟩
    rw [Int.toNat_natCast]
    refine for_it (walk_rng (n := us.length)) (fun i σ H3 => ∃ y1 y2 y3 y4 y5 y6 y7 y8 y9, σ = [some (.ref sa), y1, y2, y3, y4, y5, y6, y7, y8, y9] ∧ Same H H3 ∧ ∀ f a, f < i → a < 4 → cr S f a ≠ (f, a))
      ⟨_, _, _, _, _, _, _, _, _, rfl, sB, fun _ _ h => absurd h (Nat.not_lt_zero _)⟩ (fun _ _ _ _ _ => trivial) (fun i x σ H3 H4 hi hp hY => ?_) (fun σ H3 hp => ?_)
    · obtain ⟨y1, y2, y3, y4, y5, y6, y7, y8, y9, rfl, s3, hne⟩ := hp
      obtain ⟨rfl, rfl⟩ := hY
      refine ⟨4, rfl, by decide, by decide, ?_⟩
      refine for_it (walk_rng (n := 4)) (fun j σ H3 => ∃ y2 y3 y4 y5 y6 y7 y8 y9, σ = [some (.ref sa), some (.int (i : Nat)), y2, y3, y4, y5, y6, y7, y8, y9] ∧ Same H H3 ∧ ∀ f a, (f < i ∧ a < 4 ∨ f = i ∧ a < j) → cr S f a ≠ (f, a))
        ⟨_, _, _, _, _, _, _, _, rfl, s3, fun f a h => h.elim (fun h => hne f a h.1 h.2) fun h => absurd h.2 (Nat.not_lt_zero _)⟩ (fun _ _ _ _ _ => trivial) (fun j x σ H3 H5 hj hp hY => ?_) (fun σ H3 hp => ?_)
      · obtain ⟨z2, z3, z4, z5, z6, z7, z8, z9, rfl, s4, hne2⟩ := hp
        obtain ⟨rfl, rfl⟩ := hY
        obtain ⟨r, er, er2⟩ := sh.at (show i < S.length by omega) hj
        obtain ⟨b, rs, eb, hb, _, hcell⟩ := hrow i r er
        obtain ⟨c, ec, hc⟩ := hcell _ _ er2
        have hin := sh.inR (show i < S.length by omega) hj
        refine ⟨_, rfl, _, rfl, sa, us, (i : Nat), .ref b, rfl, rfl, SqT.of (s4 _ _ hsa), atI_nat eb, ?_⟩
        refine ⟨_, rfl, b, rs, (j : Nat), .ref c, rfl, rfl, SqT.of (s4 _ _ hb), atI_nat ec, ?_⟩
        have hc4 := s4 _ _ hc
        refine ⟨_, rfl, _, rfl, sa, us, rfl, .inr (SqT.of (s4 _ _ hsa)), .ref c, cr S i j, us.length, rfl, prD_is hc4, by rw [hul]; exact hin.1, hin.2, true, rfl, iteF ?_⟩
        refine ⟨_, rfl, _, rfl, _, rfl, tup2_line, fun p1 np1 => ?_⟩
        have s5 := sm_upd np1 (o := .tup [.int (i : Nat), .int (j : Nat)])
        refine ⟨prP (cr S i j), prP (i, j), dp_pr (s5 _ _ hc4), dp_pr upd_same, pr_shaped _, pr_shaped _, _, rfl, ?_⟩
        rw [pr_eqv]
        refine ite2 (fun c1 => ?_) (fun c1 => ?_)
        · exact q false _ (s4.trans s5) fun h => by cases h
        · have hn : cr S i j ≠ (i, j) := of_decide_eq_false (Bool.eq_false_iff.mpr c1)
          refine ⟨_, _, _, _, _, _, _, _, rfl, s4.trans s5, fun f a h => ?_⟩
          by_cases e : f = i ∧ a = j
          · obtain ⟨rfl, rfl⟩ := e
            exact hn
          · exact hne2 f a (by omega)
      · obtain ⟨z2, z3, z4, z5, z6, z7, z8, z9, rfl, s4, hne2⟩ := hp
        exact ⟨_, _, _, _, _, _, _, _, _, rfl, s4, fun f a hf ha => hne2 f a (by omega)⟩
    obtain ⟨y1, y2, y3, y4, y5, y6, y7, y8, y9, rfl, s3, hne⟩ := hp
    rw [hul] at hne
    -- there and back
    refine ⟨_, rfl, sa, us, rfl, .inr (SqT.of (s3 _ _ hsa)), (us.length : Int), rfl, by omega, by omega, ?_⟩
    rw [Int.toNat_natCast]
    refine for_it (walk_rng (n := us.length)) (fun i σ H4 => ∃ y1 y2 y3 y4 y5 y6 y7 y8 y9, σ = [some (.ref sa), y1, y2, y3, y4, y5, y6, y7, y8, y9] ∧ Same H H4 ∧ ∀ f a, f < i → a < 4 → cr S (cr S f a).1 (cr S f a).2 = (f, a))
      ⟨_, _, _, _, _, _, _, _, _, rfl, s3, fun _ _ h => absurd h (Nat.not_lt_zero _)⟩ (fun _ _ _ _ _ => trivial) (fun i x σ H4 H5 hi hp hY => ?_) (fun σ H4 hp => ?_)
    · obtain ⟨y1, y2, y3, y4, y5, y6, y7, y8, y9, rfl, s4, hbk⟩ := hp
      obtain ⟨rfl, rfl⟩ := hY
      refine ⟨4, rfl, by decide, by decide, ?_⟩
      refine for_it (walk_rng (n := 4)) (fun j σ H4 => ∃ y2 y3 y4 y5 y6 y7 y8 y9, σ = [some (.ref sa), some (.int (i : Nat)), y2, y3, y4, y5, y6, y7, y8, y9] ∧ Same H H4 ∧ ∀ f a, (f < i ∧ a < 4 ∨ f = i ∧ a < j) → cr S (cr S f a).1 (cr S f a).2 = (f, a))
        ⟨_, _, _, _, _, _, _, _, rfl, s4, fun f a h => h.elim (fun h => hbk f a h.1 h.2) fun h => absurd h.2 (Nat.not_lt_zero _)⟩ (fun _ _ _ _ _ => trivial) (fun j x σ H4 H6 hj hp hY => ?_) (fun σ H4 hp => ?_)
      · obtain ⟨z2, z3, z4, z5, z6, z7, z8, z9, rfl, s5, hbk2⟩ := hp
        obtain ⟨rfl, rfl⟩ := hY
        obtain ⟨r, er, er2⟩ := sh.at (show i < S.length by omega) hj
        obtain ⟨b, rs, eb, hb, _, hcell⟩ := hrow i r er
        obtain ⟨c, ec, hc⟩ := hcell _ _ er2
        have hin := sh.inR (show i < S.length by omega) hj
        obtain ⟨r2, er3, er4⟩ := sh.at hin.1 hin.2
        obtain ⟨b2, rs2, eb2, hb2, _, hcell2⟩ := hrow _ r2 er3
        obtain ⟨c2, ec2, hc2⟩ := hcell2 _ _ er4
        have hsa5 := s5 _ _ hsa
        have hb5 := s5 _ _ hb
        have hc5 := s5 _ _ hc
        refine ⟨_, rfl, _, rfl, _, rfl, sa, us, (i : Nat), .ref b, rfl, rfl, SqT.of hsa5, atI_nat eb, ?_⟩
        refine ⟨_, rfl, b, rs, (j : Nat), .ref c, rfl, rfl, SqT.of hb5, atI_nat ec, c, _, 0, _, rfl, rfl, SqT.of hc5, atI_nat (j := 0) rfl, ?_⟩
        refine ⟨sa, us, ((cr S i j).1 : Nat), .ref b2, rfl, rfl, SqT.of hsa5, atI_nat eb2, ?_⟩
        refine ⟨_, rfl, _, rfl, sa, us, (i : Nat), .ref b, rfl, rfl, SqT.of hsa5, atI_nat eb, ?_⟩
        refine ⟨_, rfl, b, rs, (j : Nat), .ref c, rfl, rfl, SqT.of hb5, atI_nat ec, c, _, 1, _, rfl, rfl, SqT.of hc5, atI_nat (j := 1) rfl, ?_⟩
        refine ⟨b2, rs2, ((cr S i j).2 : Nat), .ref c2, rfl, rfl, SqT.of (s5 _ _ hb2), atI_nat ec2, ?_⟩
        refine ⟨_, rfl, _, rfl, tup2_line, fun p1 np1 => ?_⟩
        have s6 := sm_upd np1 (o := .tup [.int (i : Nat), .int (j : Nat)])
        refine ⟨prP (cr S (cr S i j).1 (cr S i j).2), prP (i, j), dp_pr (s6 _ _ (s5 _ _ hc2)), dp_pr upd_same, pr_shaped _, pr_shaped _, _, rfl, ?_⟩
        rw [pr_eqv]
        refine ite2 (fun c1 => ?_) (fun c1 => ?_)
        · exact q false _ (s5.trans s6) fun h => by cases h
        · have hn : cr S (cr S i j).1 (cr S i j).2 = (i, j) := by simpa using c1
          refine ⟨_, _, _, _, _, _, _, _, rfl, s5.trans s6, fun f a h => ?_⟩
          by_cases e : f = i ∧ a = j
          · obtain ⟨rfl, rfl⟩ := e
            exact hn
          · exact hbk2 f a (by omega)
      · obtain ⟨z2, z3, z4, z5, z6, z7, z8, z9, rfl, s5, hbk2⟩ := hp
        exact ⟨_, _, _, _, _, _, _, _, _, rfl, s5, fun f a hf ha => hbk2 f a (by omega)⟩
    obtain ⟨y1, y2, y3, y4, y5, y6, y7, y8, y9, rfl, s4, hbk⟩ := hp
    rw [hul] at hbk
    have sewn : Sewn S := fun f a hf ha => ⟨hne f a hf ha, hbk f a hf ha⟩
    -- lots
    refine ⟨_, rfl, sa, us, rfl, .inr (SqT.of (s4 _ _ hsa)), (us.length : Int), rfl, RgOk.of_le (by omega) (by omega) (by omega) (by omega), fun l nl => ?_⟩
    rw [lvV_rg, hul]
    have nl0 : H l = none := s4.free nl
    have s5 := s4.trans (sm_upd nl (o := .lst (lvV (List.range S.length))))
    refine ⟨_, rfl, sa, us, rfl, .inr (SqT.of (s5 _ _ hsa)), (us.length : Int), rfl, by omega, by omega, ?_⟩
    rw [Int.toNat_natCast]
    refine for_it (walk_rng (n := us.length)) (fun i σ H6 => ∃ lv y1 y2 y3 y5 y6 y7 y8 y9, σ = [some (.ref sa), y1, y2, y3, some (.ref l), y5, y6, y7, y8, y9] ∧ Same H H6 ∧ H6 l = some (.lst (lvV lv)) ∧ LabF S lv)
      ⟨_, _, _, _, _, _, _, _, _, rfl, s5, upd_same, LabF.start S⟩ (fun _ _ _ _ _ => trivial) (fun lap x σ H6 H7 hlap hp hY => ?_) (fun σ H6 hp => ?_)
    · obtain ⟨lv, y1, y2, y3, y5, y6, y7, y8, y9, rfl, s6, hl, hlab⟩ := hp
      obtain ⟨rfl, rfl⟩ := hY
      refine ⟨_, rfl, sa, us, rfl, .inr (SqT.of (s6 _ _ hsa)), (us.length : Int), rfl, by omega, by omega, ?_⟩
      rw [Int.toNat_natCast]
      refine for_it (walk_rng (n := us.length)) (fun i σ H6 => ∃ lv y1 y2 y3 y6 y7 y8 y9, σ = [some (.ref sa), y1, y2, y3, some (.ref l), some (.int (lap : Nat)), y6, y7, y8, y9] ∧ Same H H6 ∧ H6 l = some (.lst (lvV lv)) ∧ LabF S lv)
        ⟨_, _, _, _, _, _, _, _, rfl, s6, hl, hlab⟩ (fun _ _ _ _ _ => trivial) (fun i x σ H6 H8 hi hp hY => ?_) (fun σ H6 hp => ?_)
      · obtain ⟨lv, z1, z2, z3, z6, z7, z8, z9, rfl, s7, hl, hlab⟩ := hp
        obtain ⟨rfl, rfl⟩ := hY
        obtain ⟨r, er⟩ := lt_get (l := S) (i := i) (by omega)
        obtain ⟨b, rs, eb, hb, hrl, hcell⟩ := hrow i r er
        obtain ⟨h4, hin⟩ := sh.row r (List.mem_of_getElem? er)
        refine ⟨_, rfl, _, rfl, sa, us, (i : Nat), .ref b, rfl, rfl, SqT.of (s7 _ _ hsa), atI_nat eb, b, rfl, ⟨rs, SqT.of (s7 _ _ hb)⟩, ?_⟩
        refine for_it (walk_tup (K := K) (a := b) (xs := rs)) (fun j σ H6 => ∃ lv y2 y3 y6 y7 y8 y9, σ = [some (.ref sa), some (.int (i : Nat)), y2, y3, some (.ref l), some (.int (lap : Nat)), y6, y7, y8, y9] ∧ Same H H6 ∧ H6 l = some (.lst (lvV lv)) ∧ LabF S lv)
          ⟨_, _, _, _, _, _, _, rfl, s7, hl, hlab⟩ (fun j σ H6 hj hp => ?_) (fun j x σ H6 H9 hj hp hY => ?_) (fun σ H6 hp => ?_)
        · obtain ⟨_, _, _, _, _, _, _, _, s8, _⟩ := hp
          exact SqT.of (s8 _ _ hb)
        · obtain ⟨lv, x2, x3, x6, x7, x8, x9, rfl, s8, hl, hlab⟩ := hp
          obtain ⟨rfl, hx⟩ := hY
          obtain ⟨p, ep⟩ := lt_get (l := r) (i := j) (by omega)
          obtain ⟨c, ec, hc⟩ := hcell j p ep
          obtain rfl : x = .ref c := Option.some.inj (hx.symm.trans ec)
          have ecr : cr S i j = p := cr_get er ep
          have hpin := hin p (List.mem_of_getElem? ep)
          have hlv := hlab.1
          refine ⟨c, [_, _], rfl, SqT.of (s8 _ _ hc), rfl, _, _, rfl, _, _, rfl, rfl, ?_⟩
          refine ⟨_, rfl, _, rfl, l, _, (i : Nat), _, rfl, rfl, SqL.of hl, atI_nat (lvV_get (by omega)), ?_⟩
          refine ⟨_, rfl, _, rfl, l, _, (p.1 : Nat), _, rfl, rfl, SqL.of hl, atI_nat (lvV_get (by have := hpin.1; omega)), _, _, rfl, ?_⟩
          rw [minI]
          refine ⟨_, rfl, _, rfl, tup2_line, fun t nt => ?_⟩
          have s9 := sm_upd nt (o := .tup [.int (min (lv.getD i 0) (lv.getD p.1 0) : Nat), .int (min (lv.getD i 0) (lv.getD p.1 0) : Nat)])
          have hstep := hlab.step (f := i) (a := j) (by omega) (by omega) (by rw [ecr]; exact hpin.1)
          rw [ecr] at hstep
          refine ⟨t, [_, _], rfl, SqT.of upd_same, rfl, _, _, rfl, _, rfl, _, rfl, l, _, (i : Nat), i, rfl, rfl, s9 _ _ hl, ixN_nat (by rw [lvV_len]; omega), ?_⟩
          rw [lvV_set]
          refine ⟨_, _, rfl, _, rfl, _, rfl, l, _, (p.1 : Nat), p.1, rfl, rfl, upd_same, ixN_nat (by rw [lvV_len, List.length_set]; have := hpin.1; omega), rfl, ?_⟩
          rw [lvV_set]
          exact ⟨_, _, _, _, _, _, _, rfl, sm_upd2 (sm_upd2 (s8.trans s9) nl0) nl0, upd_same, hstep⟩
        · obtain ⟨lv, x2, x3, x6, x7, x8, x9, rfl, s8, hl, hlab⟩ := hp
          exact ⟨_, _, _, _, _, _, _, _, rfl, s8, hl, hlab⟩
      · obtain ⟨lv, z1, z2, z3, z6, z7, z8, z9, rfl, s7, hl, hlab⟩ := hp
        exact ⟨_, _, _, _, _, _, _, _, _, rfl, s7, hl, hlab⟩
    · obtain ⟨lv, y1, y2, y3, y5, y6, y7, y8, y9, rfl, s6, hl, hlab⟩ := hp
      have hlv := hlab.1
      rw [lvV_ints] at hl
      refine ⟨_, rfl, l, _, rfl, SqL.of hl, by rw [List.length_map]; omega, fun p1 np1 => ?_⟩
      have s7 := s6.trans (sm_upd np1 (o := .set (fun k => (fm (lv.map fun x => ((x : Nat) : Int))).any (· == k)) (fm (lv.map fun x => ((x : Nat) : Int))).length))
      refine ⟨(show 1 ≤ sizeLine by decide), fun t nt => ?_⟩
      refine ⟨t, [0], rfl, SqL.of upd_same, (show 1 ≤ 4000 by decide), fun p2 np2 => ?_⟩
      refine ⟨p1, p2, _, _, _, _, rfl, rfl, sm_upd np2 _ _ (sm_upd nt _ _ upd_same), upd_same, fun rr hrr => ?_⟩
      exact q rr _ ((s7.trans (sm_upd nt)).trans (sm_upd np2)) fun h => ⟨sh, sewn, hlab.conn sh sewn fun f hf => set_zero hrr h (by omega)⟩
end
end Hp5

set_option maxHeartbeats 4000000
/-! any skin that the law draws is valid -/
namespace Hp5
open PySem PySem.Spec PyProof.Rows L2
theorem Fr.free {t d : Addr} {n : Nat} {H H1 : Hp} (f : Fr t H H1) (ht : TinA H1 t n) (h : H1 d = none) : H d = none := by
  cases e : H d with
  | none => rfl
  | some o =>
    by_cases et : d = t
    · obtain ⟨x, y, z, e2, _⟩ := ht
      rw [et, e2] at h
      cases h
    · rw [f d o et e] at h
      cases h
/-- a row of pairs, put in another order -/
theorem perm_prs {H : Hp} {zs ws : List V} (h : zs.Perm ws) : ∀ {l : List Pr}, IsAll H ws (l.map prD) → ∃ ps : List Pr, ps.Perm l ∧ IsAll H zs (ps.map prD) := by
  induction h with
  | nil =>
    intro l h
    exact ⟨l, List.Perm.refl _, h⟩
  | cons x h ih =>
    intro l hl
    cases l with
    | nil => cases hl
    | cons p l =>
      cases hl with
      | cons h1 h2 =>
        obtain ⟨ps, hp, ha⟩ := ih h2
        exact ⟨p :: ps, hp.cons p, .cons h1 ha⟩
  | swap x y r =>
    intro l hl
    cases l with
    | nil => cases hl
    | cons p l =>
      cases l with
      | nil =>
        cases hl with
        | cons h1 h2 => cases h2
      | cons p2 l =>
        cases hl with
        | cons h1 h2 =>
          cases h2 with
          | cons h2 h3 => exact ⟨p2 :: p :: l, List.Perm.swap p p2 l, .cons h2 (.cons h1 h3)⟩
  | trans h1 h2 ih1 ih2 =>
    intro l hl
    obtain ⟨ps, hp, ha⟩ := ih2 hl
    obtain ⟨qs, hq, hb⟩ := ih1 ha
    exact ⟨qs, hq.trans hp, hb⟩
/-- the values of a dict are pairs of the skin -/
def ValsD (H : Hp) (n : Nat) (D : List (Pr × V)) : Prop := ∀ p v, valV D p = some v → ∃ (q : Pr) (c : Addr), v = .ref c ∧ H c = some (.tup [.int q.1, .int q.2]) ∧ InR n q
theorem ValsD.nil (H : Hp) (n : Nat) : ValsD H n [] := fun _ _ h => by cases h
theorem ValsD.tp {H H' : Hp} {n : Nat} {D : List (Pr × V)} (h : ValsD H n D) (t : Tps H H') : ValsD H' n D := fun p v e => by
  obtain ⟨q, c, e1, e2, e3⟩ := h p v e
  exact ⟨q, c, e1, t _ _ e2, e3⟩
theorem ValsD.put {H : Hp} {n : Nat} {D : List (Pr × V)} (h : ValsD H n D) (p : Pr) {q : Pr} {c : Addr} (hc : H c = some (.tup [.int q.1, .int q.2])) (hq : InR n q) : ValsD H n (putK D p (.ref c)) := fun k v e => by
  rw [valV_put] at e
  split at e
  · cases e
    exact ⟨q, c, rfl, hc, hq⟩
  · exact h k v e
def pairOf (H : Hp) (D : List (Pr × V)) (p : Pr) : Pr := match valV D p with
  | some (.ref c) => (match H c with
    | some (.tup [.int x, .int y]) => (x.toNat, y.toNat)
    | _ => (0, 0))
  | _ => (0, 0)
theorem pairOf_eq {H : Hp} {D : List (Pr × V)} {p q : Pr} {c : Addr} (e : valV D p = some (.ref c)) (h : H c = some (.tup [.int q.1, .int q.2])) : pairOf H D p = q := by
  unfold pairOf
  rw [e]
  show (match H c with
    | some (.tup [.int x, .int y]) => (x.toNat, y.toNat)
    | _ => (0, 0)) = q
  rw [h] <;> rfl
def madeS (H : Hp) (D : List (Pr × V)) (n : Nat) : Skin := (List.range n).map fun f => (List.range 4).map fun a => pairOf H D (f, a)
theorem made_shaped {H : Hp} {D : List (Pr × V)} {n : Nat} (h0 : 0 < n) (h9 : n ≤ 12) (hk : ∀ p, InR n p → HasK D p) (hv : ValsD H n D) : Shaped (madeS H D n) := by
  have hl : (madeS H D n).length = n := by unfold madeS; rw [List.length_map, List.length_range]
  refine ⟨by omega, by omega, fun r hr => ?_⟩
  obtain ⟨f, hf, rfl⟩ := List.mem_map.mp hr
  refine ⟨by rw [List.length_map, List.length_range], fun p hp => ?_⟩
  obtain ⟨a, ha, rfl⟩ := List.mem_map.mp hp
  obtain ⟨v, ev⟩ := hk (f, a) ⟨List.mem_range.mp hf, List.mem_range.mp ha⟩
  obtain ⟨q, c, rfl, hc, hq⟩ := hv _ _ ev
  rw [pairOf_eq ev hc, hl]
  exact hq
section
variable {P : Program} {w : World} {K : PySem.W.Frag} {mg : Str → Option Value} {base : Heap}
def spSewnSo : Sp := fun vs H Q _ => ∃ (t : Addr) (n m : Nat), vs = [.ref t, .int n] ∧ 0 < n ∧ n ≤ 6 ∧ TinA H t m ∧ m ≤ 10000 ∧ ∀ v' S H', Fr t H H' → TinA H' t (m + 300) → Is H' v' (skD S) → Valid S → S.length ≤ 6 → Q v' H'
abbrev ns_l_sewn_so : List Str := ["_law_tin", "_law_many_so", "_law_lap", "_law_row_so", "_law_f", "_law_found", "_law_k", "_law_hide", "_law_a"]
theorem sc_l_sewn_so : FnScope ns_l_sewn_so ["_law_tin", "_law_many_so"] (defScope s_l_sewn_so) := ⟨rfl, rfl, rfl, by decide +kernel, rfl, by decide +kernel, by decide +kernel⟩
theorem ok_l_sewn_so (T : Tx K mg) : OkD P w K mg base 4 "_law_sewn_so" ["_law_tin", "_law_many_so"] spSewnSo := by
  have G_l_pick : OkD P w K mg base 2 "_law_pick" ["_law_tin", "_law_goods_so", "_law_count_so"] spPick := ok_l_pick T
  have G_l_is_sewn : OkD P w K mg base 3 "_law_is_sewn" ["_law_matter"] spSewn := ok_l_is_sewn T
  have G_l_square : OkD P w K mg base 1 "_law_square" ["_law_wide_so", "_law_high_so"] spSq := ok_l_square T
  refine T.d_l_sewn_so.ok sc_l_sewn_so (fun vs H Q E h => ?_) (fun cdv A outer s H vs Q E hr h => ?_)
  · obtain ⟨t, n, m, rfl, _⟩ := h
    rfl
  · obtain ⟨t, n, m, rfl, hn0, hn6, ht, hm, q⟩ := h
    have nn := sc_l_sewn_so.nd
    have hu := hu_of hr
    -- slots: 0 _law_tin, 1 _law_many_so, 2 _law_lap, 3 _law_row_so, 4 _law_f, 5 _law_found, 6 _law_k, 7 _law_hide, 8 _law_a; calls: _law_is_sewn, _law_pick, _law_square
    refine ⟨_, (pss_cons (ps_for PassesOwn.never rfl (pi_range1 (by rfl) T.m_range (pa_cons pe_int pa_nil)) (pg_name (i := 2) nn rfl (by first | exact .inl rfl | exact .inr rfl)) (pss_cons (ps_set (i := 3) nn rfl (by first | exact .inl rfl | exact .inr rfl) (pe_lst pa_nil))
      (pss_cons (ps_for PassesOwn.never rfl (pi_range1 (by rfl) T.m_range (pa_cons (pv 1) pa_nil)) (pg_name (i := 4) nn rfl (by first | exact .inl rfl | exact .inr rfl)) (pss_one (ps_set (i := 3) nn rfl (by first | exact .inl rfl | exact .inr rfl) (pe_op op_cat (pv 3) (pe_lc (own := [("_law_a", 8)]) (g := gName 8) (tt := tYes) rfl nn (pi_range1 (by rfl) T.m_range (pa_cons pe_int pa_nil)) (blkOk_by (N := ns_l_sewn_so) (sc := defScope s_l_sewn_so) (by decide +kernel)) (fun _ _ _ _ _ => (pg_name (i := 8) nn rfl (by first | exact .inl rfl | exact .inr rfl))) (fun _ _ _ _ _ => pts_nil) (fun _ _ _ _ _ => (pe_tup (pa_cons (pv 4) (pa_cons (pv 8) pa_nil)))))))))
      (pss_cons (ps_asg (pe_tup (pa_cons (pe_c G_l_pick hr (by decide) (pa_cons (pv 0) (pa_cons (pv 3) (pa_cons (pe_callB (cLen K) (by rfl) T.m_len bt_len (pa_cons (pv 3) pa_nil)) pa_nil)))) (pa_cons pe_dnewT pa_nil))) (pgT K (n := 2) (pgs_cons (pg_name (i := 3) nn rfl (by first | exact .inl rfl | exact .inr rfl)) (pgs_cons (pg_name (i := 5) nn rfl (by first | exact .inl rfl | exact .inr rfl)) pgs_nil))))
      (pss_cons (ps_for PassesOwn.never rfl (pi_range1 (by rfl) T.m_range (pa_cons (pe_op op_mul pe_int (pv 1)) pa_nil)) (pg_name (i := 6) nn rfl (by first | exact .inl rfl | exact .inr rfl)) (pss_cons (ps_dput hu (pv 5) (pe_ix (ixL K) (pv 3) (pe_op op_mul pe_int (pv 6)) (fun _ _ => rfl)) (pe_ix (ixL K) (pv 3) (pe_op op_add (pe_op op_mul pe_int (pv 6)) pe_int) (fun _ _ => rfl)) rfl)
      (pss_one (ps_dput hu (pv 5) (pe_ix (ixL K) (pv 3) (pe_op op_add (pe_op op_mul pe_int (pv 6)) pe_int) (fun _ _ => rfl)) (pe_ix (ixL K) (pv 3) (pe_op op_mul pe_int (pv 6)) (fun _ _ => rfl)) rfl))))
      (pss_cons (ps_set (i := 7) nn rfl (by first | exact .inl rfl | exact .inr rfl) (pe_callTy (cTup K) (by rfl) T.m_tuple bt_tuple (pa_cons (pe_lc (own := [("_law_f", 4)]) (g := gName 4) (tt := tYes) rfl nn (pi_range1 (by rfl) T.m_range (pa_cons (pv 1) pa_nil)) (blkOk_by (N := ns_l_sewn_so) (sc := defScope s_l_sewn_so) (by decide +kernel)) (fun _ _ _ _ _ => (pg_name (i := 4) nn rfl (by first | exact .inl rfl | exact .inr rfl))) (fun _ _ _ _ _ => pts_nil) (fun _ _ _ _ _ => (pe_callTy (cTup K) (by rfl) T.m_tuple bt_tuple (pa_cons (pe_lc (own := [("_law_a", 8)]) (g := gName 8) (tt := tYes) rfl nn (pi_range1 (by rfl) T.m_range (pa_cons pe_int pa_nil)) (blk_nest (N := ns_l_sewn_so) (sc := defScope s_l_sewn_so) (by rfl) (by decide +kernel)) (fun _ _ _ _ _ => (pg_name (i := 8) nn rfl (by first | exact .inl rfl | exact .inr rfl))) (fun _ _ _ _ _ => pts_nil) (fun _ _ _ _ _ => (pe_dget hu (pv 5) (pe_tup (pa_cons (pv 4) (pa_cons (pv 8) pa_nil))) (fun _ _ => rfl)))) pa_nil)))) pa_nil)))
      (pss_one (ps_if (pt_val (pe_c G_l_is_sewn hr (by decide) (pa_cons (pv 7) pa_nil))) (pss_one (ps_ret (pv 7))) pss_nil))))))))
      (pss_one (ps_ret (pe_c G_l_square hr (by decide) (pa_cons (pv 1) (pa_cons pe_int pa_nil)))))), ?_⟩
    refine ⟨12, rfl, by decide, by decide, ?_⟩
    refine for_it (walk_rng (n := 12)) (fun lap σ H1 => ∃ y2 y3 y4 y5 y6 y7 y8, σ = [some (.ref t), some (.int (n : Nat)), y2, y3, y4, y5, y6, y7, y8] ∧ Fr t H H1 ∧ TinA H1 t (m + 24 * lap))
      ⟨_, _, _, _, _, _, _, rfl, Fr.refl _ _, ht⟩ (fun _ _ _ _ _ => trivial) (fun lap x σ H1 H2 hlap hp hY => ?_) (fun σ H1 hp => ?_)
    · obtain ⟨y2, y3, y4, y5, y6, y7, y8, rfl, f1, ht1⟩ := hp
      obtain ⟨rfl, rfl⟩ := hY
      -- the row
      refine ⟨Nat.zero_le _, fun l0 nl0 => ?_⟩
      have s0 : Same H2 (upd H2 l0 (.lst [])) := sm_upd nl0
      refine ⟨_, rfl, (n : Int), rfl, by omega, by omega, ?_⟩
      rw [Int.toNat_natCast]
      refine for_it (walk_rng (n := n)) (fun i σ H3 => ∃ l ws y4 y5 y6 y7 y8, σ = [some (.ref t), some (.int (n : Nat)), some (.int (lap : Nat)), some (.ref l), y4, y5, y6, y7, y8] ∧ Same H2 H3 ∧ H3 l = some (.lst ws) ∧ IsAll H3 ws ((allP i).map prD))
        ⟨l0, [], _, _, _, _, _, rfl, s0, upd_same, .nil⟩ (fun _ _ _ _ _ => trivial) (fun i x σ H3 H4 hi hp hY => ?_) (fun σ H3 hp => ?_)
      · obtain ⟨l, ws, z4, z5, z6, z7, z8, rfl, s1, hl, hws⟩ := hp
        obtain ⟨rfl, rfl⟩ := hY
        refine ⟨_, rfl, 4, rfl, by decide, by decide, fun D nD => ?_⟩
        refine lc_nm (walk_rng (n := 4)) (((List.range 4).map fun b => ((i, b) : Pr)).map prD) rfl (by decide) nD (fun _ _ => trivial) (fun d hd => tuAll_iff.mp (tu_prs _) d hd) (fun x => rfl) (fun b x H5 H6 e C hb he s4 hY hC => ?_) (fun H5 zs s3 hD hzs => ?_)
        · obtain ⟨rfl, rfl⟩ := hY
          rw [List.getElem?_map, List.getElem?_map, List.getElem?_range hb] at he
          obtain rfl : prD (i, b) = e := Option.some.inj he
          exact ⟨_, rfl, _, rfl, tup2_line, fun p1 np1 => hC _ _ (sm_upd np1) (prD_is upd_same)⟩
        · have l1 := hws.length
          have l2 := hzs.length
          rw [List.length_map, allP_len] at l1
          rw [List.length_map, List.length_map, List.length_range] at l2
          refine ⟨l, D, ws, zs, rfl, rfl, s3 _ _ hl, hD, Nat.le_of_lt (small1000 (by omega)), fun p np => ?_⟩
          refine ⟨p, ws ++ zs, _, _, _, _, _, rfl, (s1.trans s3).trans (sm_upd np), upd_same, ?_⟩
          rw [allP_succ, List.map_append]
          exact ((hws.sm s3).sm (sm_upd np)).append (hzs.sm (sm_upd np))
      obtain ⟨l, ws, z4, z5, z6, z7, z8, rfl, s1, hl, hws⟩ := hp
      have hwl := hws.length
      rw [List.length_map, allP_len] at hwl
      have ht3 := ht1.sm s1
      -- shuffled
      refine ⟨_, rfl, _, rfl, _, rfl, l, ws, rfl, .inl (SqL.of hl), t, l, ws, m + 24 * lap, rfl, hl, refs_prs hws, by omega, ht3, by omega, fun a zs H4 f4 ht4 ha hperm => ?_⟩
      obtain ⟨ps, hps, hzs⟩ := perm_prs hperm (hws.st (f4.st ht3))
      have hpl : ps.length = 4 * n := by rw [hps.length_eq, allP_len]
      have hzl := hzs.length
      rw [List.length_map] at hzl
      intro d nd
      have nd2 : H2 d = none := ((Fr.of s1).trans f4).free ht4 nd
      have nd0 : H d = none := f1.free ht1 nd2
      have s5 := sm_upd nd (o := .dT [])
      refine ⟨tup2_line, fun tt ntt => ?_⟩
      have s6 := s5.trans (sm_upd ntt (o := .tup [.ref a, .ref d]))
      refine ⟨tt, [_, _], rfl, SqT.of upd_same, rfl, _, _, rfl, _, _, rfl, rfl, ?_⟩
      -- the pairs, both ways
      have hfr6 := ((f1.trans (Fr.of s1)).trans f4).trans (Fr.of s6)
      have hnt : ¬ Tin (.lst zs) := (refs_prs hzs).nt
      refine ⟨_, rfl, _, _, rfl, rfl, .inl ⟨by decide, by decide⟩, ((2 * n : Nat) : Int), by rw [Int.natCast_mul] <;> rfl, by omega, by omega, ?_⟩
      rw [Int.toNat_natCast]
      refine for_it (walk_rng (n := 2 * n)) (fun k σ H5 => ∃ D y4 y6 y7 y8, σ = [some (.ref t), some (.int (n : Nat)), some (.int (lap : Nat)), some (.ref a), y4, some (.ref d), y6, y7, y8] ∧ Fr t H H5 ∧ TinA H5 t (m + 24 * lap + ws.length) ∧ Tps H4 H5 ∧ H5 a = some (.lst zs) ∧ H5 d = some (.dT (kd D)) ∧
          KeysIn n D ∧ (∀ i, i < 2 * k → HasK D (ps.getD i (0, 0))) ∧ ValsD H5 n D)
        ⟨[], _, _, _, _, rfl, hfr6, ht4.sm s6, Tps.of s6, s6 _ _ ha, sm_upd ntt _ _ upd_same, KeysIn.nil n, fun i hi => absurd hi (by omega), ValsD.nil _ _⟩ (fun _ _ _ _ _ => trivial) (fun k x σ H5 H6 hk hp hY => ?_) (fun σ H5 hp => ?_)
      · obtain ⟨D, x4, x6, x7, x8, rfl, f5, ht5, tp5, ha5, hd5, hki, hhas, hvals⟩ := hp
        obtain ⟨rfl, rfl⟩ := hY
        have had : a ≠ d := ne_of ha5 hd5 (by intro z; cases z)
        obtain ⟨p, ep⟩ := lt_get (l := ps) (i := 2 * k) (by omega)
        obtain ⟨p2, ep2⟩ := lt_get (l := ps) (i := 2 * k + 1) (by omega)
        have hpin : InR n p := mem_allP.mp (hps.mem_iff.mp (List.mem_of_getElem? ep))
        have hpin2 : InR n p2 := mem_allP.mp (hps.mem_iff.mp (List.mem_of_getElem? ep2))
        obtain ⟨x', hx', hi'⟩ := hzs.get (i := 2 * k) (d := prD p) (by rw [List.getElem?_map, ep] <;> rfl)
        obtain ⟨c, rfl, hc⟩ := hi'.prE
        obtain ⟨x2', hx2', hi2'⟩ := hzs.get (i := 2 * k + 1) (d := prD p2) (by rw [List.getElem?_map, ep2] <;> rfl)
        obtain ⟨c2, rfl, hc2⟩ := hi2'.prE
        have g1 : atI zs (2 * ((k : Nat) : Int)) = some (.ref c) := by
          rw [show 2 * ((k : Nat) : Int) = ((2 * k : Nat) : Int) by omega]
          exact atI_nat hx'
        have g2 : atI zs (2 * ((k : Nat) : Int) + 1) = some (.ref c2) := by
          rw [show 2 * ((k : Nat) : Int) + 1 = ((2 * k + 1 : Nat) : Int) by omega]
          exact atI_nat hx2'
        have hkl := hki.len
        have hcm : CMul 2 ((k : Nat) : Int) := .inl ⟨by decide, by decide⟩
        refine ⟨_, rfl, _, rfl, _, _, rfl, rfl, hcm, _, _, rfl, rfl, a, zs, _, .ref c2, rfl, rfl, SqL.of ha5, g2, ?_⟩
        refine ⟨_, rfl, _, rfl, _, rfl, _, _, rfl, rfl, hcm, a, zs, _, .ref c, rfl, rfl, SqL.of ha5, g1, ?_⟩
        refine ⟨d, _, rfl, DPut.t (k := pk p) hd5 (tp5 _ _ hc) (by rw [kd_len]; exact small1000 (by omega)), ?_⟩
        rw [putK_kd]
        have tp6 : Tps H6 (upd H6 d (.dT (kd (putK D p (.ref c2))))) := Tps.updT hd5
        have ha6 : (upd H6 d (.dT (kd (putK D p (.ref c2))))) a = some (.lst zs) := by rw [upd_ne had]; exact ha5
        have hki2 := hki.put hpin (.ref c2)
        have hkl2 := hki2.len
        refine ⟨_, rfl, _, rfl, _, _, rfl, rfl, hcm, a, zs, _, .ref c, rfl, rfl, SqL.of ha6, g1, ?_⟩
        refine ⟨_, rfl, _, rfl, _, rfl, _, _, rfl, rfl, hcm, _, _, rfl, rfl, a, zs, _, .ref c2, rfl, rfl, SqL.of ha6, g2, ?_⟩
        refine ⟨d, _, rfl, DPut.t (k := pk p2) upd_same (tp6 _ _ (tp5 _ _ hc2)) (by rw [kd_len]; exact small1000 (by omega)), ?_⟩
        rw [putK_kd]
        have tp7 : Tps H6 (upd (upd H6 d (.dT (kd (putK D p (.ref c2))))) d (.dT (kd (putK (putK D p (.ref c2)) p2 (.ref c))))) := tp6.trans (Tps.updT upd_same)
        refine ⟨_, _, _, _, _, rfl, (f5.upd2 nd0).upd2 nd0, (ht5.upd2 hd5 (nt_dT _)).upd2 upd_same (nt_dT _), tp5.trans tp7, ?_, upd_same, hki2.put hpin2 _, fun i hi => ?_, ?_⟩
        · rw [upd_ne had]
          exact ha6
        · by_cases e1 : i = 2 * k + 1
          · refine HasK.put (.inr ?_)
            rw [e1, List.getD_eq_getElem?_getD, ep2] <;> rfl
          · refine HasK.put (.inl ?_)
            by_cases e2 : i = 2 * k
            · refine HasK.put (.inr ?_)
              rw [e2, List.getD_eq_getElem?_getD, ep] <;> rfl
            · exact HasK.put (.inl (hhas i (by omega)))
        · exact ((hvals.tp tp7).put p (tp7 _ _ (tp5 _ _ hc2)) hpin2).put p2 (tp7 _ _ (tp5 _ _ hc)) hpin
      obtain ⟨D, x4, x6, x7, x8, rfl, f5, ht5, tp5, ha5, hd5, hki, hhas, hvals⟩ := hp
      have hall : ∀ p, InR n p → HasK D p := fun p hp => by
        obtain ⟨i, hi⟩ := List.mem_iff_getElem?.mp (hps.mem_iff.mpr (mem_allP.mpr hp))
        have hlt := get_lt hi
        have := hhas i (by omega)
        rwa [List.getD_eq_getElem?_getD, hi] at this
      have hsh : Shaped (madeS H5 D n) := made_shaped hn0 (by omega) hall hvals
      have hml : (madeS H5 D n).length = n := by unfold madeS; rw [List.length_map, List.length_range]
      -- hide
      refine ⟨_, rfl, (n : Int), rfl, by omega, by omega, fun D1 nD1 => ?_⟩
      rw [Int.toNat_natCast]
      refine lc_nm (walk_rng (n := n)) ((madeS H5 D n).map rowD) (by rw [List.length_map, hml]) (by omega) nD1 (fun _ _ => trivial) (fun e he => tuAll_iff.mp (tu_rows _) e he) (fun x => rfl) (fun f x H6 H7 e C hf he s7 hY hC => ?_) (fun H6 zs2 s7 hD1 hzs2 => ?_)
      · obtain ⟨rfl, rfl⟩ := hY
        have ee : e = rowD ((List.range 4).map fun a => pairOf H5 D (f, a)) := by
          unfold madeS at he
          rw [List.getElem?_map, List.getElem?_map, List.getElem?_range hf] at he
          exact (Option.some.inj he).symm
        subst ee
        refine ⟨4, rfl, by decide, by decide, fun D2 nD2 => ?_⟩
        refine lc_nm (walk_rng (n := 4)) (((List.range 4).map fun a => pairOf H5 D (f, a)).map prD) rfl (by decide) nD2 (fun _ _ => trivial) (fun d hd => tuAll_iff.mp (tu_prs _) d hd) (fun x => rfl) (fun b x H8 H9 e C2 hb he2 s8 hY hC2 => ?_) (fun H8 zs3 s8 hD2 hzs3 => ?_)
        · obtain ⟨rfl, rfl⟩ := hY
          rw [List.getElem?_map, List.getElem?_map, List.getElem?_range hb] at he2
          obtain rfl : prD (pairOf H5 D (f, b)) = e := Option.some.inj he2
          refine ⟨_, rfl, _, rfl, _, rfl, tup2_line, fun p1 np1 => ?_⟩
          have s9 := sm_upd np1 (o := .tup [.int (f : Nat), .int (b : Nat)])
          obtain ⟨v, ev⟩ := hall (f, b) ⟨hf, hb⟩
          obtain ⟨qq, cc, rfl, hcc, _⟩ := hvals _ _ ev
          rw [pairOf_eq ev hcc] at hC2
          have hg := DGet.t (k := pk (f, b)) (s9 _ _ (s8 _ _ (s7 _ _ hd5))) upd_same
          rw [valV_kd, ev] at hg
          exact ⟨d, _, rfl, hg, hC2 _ _ s9 (prD_is (s9 _ _ (s8 _ _ (s7 _ _ hcc))))⟩
        · exact ⟨D2, zs3, rfl, .inl ⟨SqL.of hD2, fun r nr => hC _ _ (s8.trans (sm_upd nr)) (.tup upd_same (hzs3.sm (sm_upd nr)))⟩⟩
      refine ⟨D1, zs2, rfl, .inl ⟨SqL.of hD1, fun r nr => ?_⟩⟩
      have s8 := s7.trans (sm_upd nr (o := .tup zs2))
      have his : Is (upd H6 r (.tup zs2)) (.ref r) (skD (madeS H5 D n)) := .tup upd_same (hzs2.sm (sm_upd nr))
      refine ⟨_, rfl, .ref r, madeS H5 D n, rfl, his, hsh, fun b H8 s9 hval => ⟨b, rfl, ?_⟩⟩
      have f8 := f5.trans (Fr.of (s8.trans s9))
      have ht8 := ht5.sm (s8.trans s9)
      refine ite2 (fun c1 => ?_) (fun c1 => ?_)
      · exact ⟨_, rfl, q _ _ _ f8 (ht8.mono (by omega)) (his.sm s9) (hval c1) (by omega)⟩
      · exact ⟨_, _, _, _, _, _, _, rfl, f8, ht8.mono (by omega)⟩
    · obtain ⟨y2, y3, y4, y5, y6, y7, y8, rfl, f1, ht1⟩ := hp
      refine ⟨_, rfl, n, 1, rfl, by omega, by omega, by decide, by decide, by omega, fun v' H' s' h' => ?_⟩
      exact q v' _ H' (f1.trans (Fr.of s')) ((ht1.sm s').mono (by omega)) h' (sqn1 n hn0 hn6) (by rw [square_len]; omega)
def spAny : Sp := fun vs H Q _ => ∃ (t : Addr) (m : Nat), vs = [.ref t, .int 6] ∧ TinA H t m ∧ m ≤ 5000 ∧ ∀ v' S H', Fr t H H' → TinA H' t (m + 310) → Is H' v' (skD S) → Valid S → S.length ≤ 6 → Q v' H'
abbrev ns_l_any_hide : List Str := ["_law_tin", "_law_most_so"]
theorem sc_l_any_hide : FnScope ns_l_any_hide ["_law_tin", "_law_most_so"] (defScope s_l_any_hide) := ⟨rfl, rfl, rfl, by decide +kernel, rfl, by decide +kernel, by decide +kernel⟩
theorem ok_l_any_hide (T : Tx K mg) : OkD P w K mg base 5 "_law_any_hide" ["_law_tin", "_law_most_so"] spAny := by
  have G_l_take : OkD P w K mg base 1 "_law_take" ["_law_tin", "_law_below_so"] spTake := ok_l_take T
  have G_l_of : OkD P w K mg base 2 "_law_of" ["_law_tin", "_law_goods_so"] spOf := ok_l_of T
  have G_l_sewn_so : OkD P w K mg base 4 "_law_sewn_so" ["_law_tin", "_law_many_so"] spSewnSo := ok_l_sewn_so T
  have G_l_square : OkD P w K mg base 1 "_law_square" ["_law_wide_so", "_law_high_so"] spSq := ok_l_square T
  refine T.d_l_any_hide.ok sc_l_any_hide (fun vs H Q E h => ?_) (fun cdv A outer s H vs Q E hr h => ?_)
  · obtain ⟨t, m, rfl, _⟩ := h
    rfl
  · obtain ⟨t, m, rfl, ht, hm, q⟩ := h
    have nn := sc_l_any_hide.nd
    -- slots: 0 _law_tin, 1 _law_most_so; calls: _law_of, _law_sewn_so, _law_square, _law_take
    refine ⟨_, (pss_cons (ps_if (pt_cmpR op_eq (pe_c G_l_take hr (by decide) (pa_cons (pv 0) (pa_cons pe_int pa_nil))) pe_int (nomark _)) (pss_one (ps_ret (pe_c G_l_of hr (by decide) (pa_cons (pv 0) (pa_cons (pe_lst (pa_cons (pe_c G_l_square hr (by decide) (pa_cons pe_int (pa_cons pe_int pa_nil))) (pa_cons (pe_c G_l_square hr (by decide) (pa_cons pe_int (pa_cons pe_int pa_nil))) (pa_cons (pe_c G_l_square hr (by decide) (pa_cons pe_int (pa_cons pe_int pa_nil))) (pa_cons (pe_c G_l_square hr (by decide) (pa_cons pe_int (pa_cons pe_int pa_nil))) (pa_cons (pe_c G_l_square hr (by decide) (pa_cons pe_int (pa_cons pe_int pa_nil))) pa_nil)))))) pa_nil))))) pss_nil)
      (pss_one (ps_ret (pe_c G_l_sewn_so hr (by decide) (pa_cons (pv 0) (pa_cons (pe_op op_add pe_int (pe_c G_l_take hr (by decide) (pa_cons (pv 0) (pa_cons (pv 1) pa_nil)))) pa_nil)))))), ?_⟩
    refine ⟨_, rfl, t, 5, m, rfl, by decide, by decide, ht, by omega, fun r o hr2 ht1 => ?_⟩
    have f1 : Fr t H (upd H t o) := Fr.t o
    refine ⟨rfl, _, rfl, ?_⟩
    refine ite2 (fun c1 => ?_) (fun c1 => ?_)
    · refine ⟨_, rfl, 2, 1, rfl, by decide, by decide, by decide, by decide, by decide, fun v1 H1 s1 h1 => ?_⟩
      refine ⟨2, 2, rfl, by decide, by decide, by decide, by decide, by decide, fun v2 H2 s2 h2 => ?_⟩
      refine ⟨1, 3, rfl, by decide, by decide, by decide, by decide, by decide, fun v3 H3 s3 h3 => ?_⟩
      refine ⟨3, 2, rfl, by decide, by decide, by decide, by decide, by decide, fun v4 H4 s4 h4 => ?_⟩
      refine ⟨1, 1, rfl, by decide, by decide, by decide, by decide, by decide, fun v5 H5 s5 h5 => ?_⟩
      refine ⟨(show 5 ≤ sizeLine by decide), fun g ng => ?_⟩
      have s6 := sm_upd ng (o := .lst [v1, v2, v3, v4, v5])
      have all : ∀ v ∈ [v1, v2, v3, v4, v5], ∃ S, Is (upd H5 g (.lst [v1, v2, v3, v4, v5])) v (skD S) ∧ Valid S ∧ S.length ≤ 6 := by
        intro v hv
        rcases List.mem_cons.mp hv with rfl | hv
        · exact ⟨_, ((((h1.sm s2).sm s3).sm s4).sm s5).sm s6, sq21, by decide⟩
        rcases List.mem_cons.mp hv with rfl | hv
        · exact ⟨_, (((h2.sm s3).sm s4).sm s5).sm s6, sq22, by decide⟩
        rcases List.mem_cons.mp hv with rfl | hv
        · exact ⟨_, ((h3.sm s4).sm s5).sm s6, sq13, by decide⟩
        rcases List.mem_cons.mp hv with rfl | hv
        · exact ⟨_, (h4.sm s5).sm s6, sq32, by decide⟩
        rcases List.mem_cons.mp hv with rfl | hv
        · exact ⟨_, h5.sm s6, sqn1 1 (by decide) (by decide), by decide⟩
        · exact absurd hv List.not_mem_nil
      have refs : Refs [v1, v2, v3, v4, v5] := fun v hv => by
        obtain ⟨S, h, _⟩ := all v hv
        obtain ⟨a, _, e, _⟩ := h.tupE
        exact ⟨a, e⟩
      have ss := (((s1.trans s2).trans s3).trans s4).trans s5
      have ht6 := ht1.sm (ss.trans s6)
      refine ⟨t, g, _, m + 1, rfl, upd_same, refs, by show 0 < 5; decide, by show 5 ≤ 1000; decide, ht6, by omega, fun v o2 hv ht7 => ?_⟩
      obtain ⟨S, hS, vd, h6⟩ := all v hv
      have f7 : Fr t (upd H5 g (.lst [v1, v2, v3, v4, v5])) (upd (upd H5 g (.lst [v1, v2, v3, v4, v5])) t o2) := Fr.t o2
      exact q v S _ ((f1.trans (Fr.of (ss.trans s6))).trans f7) (ht7.mono (by omega)) (hS.st (f7.st ht6)) vd h6
    · refine ⟨_, rfl, _, rfl, _, rfl, t, 6, m + 1, rfl, by decide, by decide, ht1, by omega, fun r2 o2 hr3 ht2 => ?_⟩
      refine ⟨_, _, rfl, rfl, t, 1 + r2, m + 2, congrArg (fun z => [V.ref t, V.int z]) (by omega), by omega, by omega, ht2, by omega, fun v' S H' f' ht' hi vd h6 => ?_⟩
      exact q v' S H' ((f1.trans (Fr.t o2)).trans f') (ht'.mono (by omega)) hi vd h6
end
end Hp5

set_option maxHeartbeats 4000000
/-! the law's lists of lists; the law's own == -/
namespace Hp5
open PySem PySem.Spec PyProof.Rows L2
/-- what is new -/
def nw (H H' : Hp) : Hp := fun b => match H b with
  | none => H' b
  | some _ => none
theorem nw_some {H H' : Hp} {b : Addr} {o : HO} (h : nw H H' b = some o) : H b = none ∧ H' b = some o := by
  unfold nw at h
  cases e : H b with
  | none =>
    rw [e] at h
    exact ⟨rfl, h⟩
  | some x =>
    rw [e] at h
    cases h
theorem nw_of {H H' : Hp} {b : Addr} {o : HO} (h : H b = none) (h' : H' b = some o) : nw H H' b = some o := by
  unfold nw
  rw [h]
  exact h'
theorem nw_sm (H H' : Hp) : Same (nw H H') H' := fun b o h => (nw_some h).2
theorem nw_grow {H U H4 D' : Hp} {D : Addr} {o : HO} (hU : ∀ b x, U b = some x → b = D ∨ H b = some x) (hD : ∃ x, H D = some x) (e : D' = upd H4 D o) : Same (nw H H4) (nw U D') := fun b x h => by
  obtain ⟨h1, h2⟩ := nw_some h
  have nb : b ≠ D := fun z => by
    obtain ⟨y, hy⟩ := hD
    rw [z, hy] at h1
    cases h1
  refine nw_of ?_ (by rw [e, upd_ne nb]; exact h2)
  cases u : U b with
  | none => rfl
  | some y =>
    rcases hU b y u with z | z
    · exact absurd z nb
    · rw [h1] at z
      cases z
mutual
def lstD : Dt → Dt
  | .int i => .int i
  | .tup l => .lst (lstDs l)
  | .lst l => .lst (lstDs l)
def lstDs : List Dt → List Dt
  | [] => []
  | d :: r => lstD d :: lstDs r
end
theorem lstDs_map : ∀ l : List Dt, lstDs l = l.map lstD
  | [] => rfl
  | d :: r => by
    show lstD d :: lstDs r = _
    rw [lstDs_map r] <;> rfl
theorem lstDs_len (l : List Dt) : (lstDs l).length = l.length := by rw [lstDs_map, List.length_map]
def l3 : List Dt → Bool
  | [.int _, .int _, .int _] => true
  | _ => false
mutual
def NT : Dt → Prop
  | .int _ => True
  | .tup l => l3 (lstDs l) = false ∧ NTs l
  | .lst _ => False
def NTs : List Dt → Prop
  | [] => True
  | d :: r => NT d ∧ NTs r
end
theorem nts_iff : ∀ {l : List Dt}, NTs l ↔ ∀ d ∈ l, NT d
  | [] => ⟨fun _ _ h => by simp at h, fun _ => trivial⟩
  | x :: r => by
    show NT x ∧ NTs r ↔ _
    rw [nts_iff (l := r)]
    exact ⟨fun h d hd => (List.mem_cons.mp hd).elim (fun e => e ▸ h.1) (h.2 d), fun h => ⟨h x List.mem_cons_self, fun d hd => h d (List.mem_cons_of_mem _ hd)⟩⟩
theorem l3_tin {H : Hp} {vs : List V} {ds : List Dt} (h : IsAll H vs ds) (e : l3 ds = false) : ¬ Tin (.lst vs) := fun ⟨x, y, z, q⟩ => by
  injection q with q
  subst q
  cases h with
  | cons h1 h =>
    cases h with
    | cons h2 h =>
      cases h with
      | cons h3 h =>
        cases h
        cases h1
        cases h2
        cases h3
        cases e
theorem nt_pr (p : Pr) : NT (prD p) := ⟨rfl, trivial, trivial, trivial⟩
theorem nt_row (r : List Pr) : NT (rowD r) := by
  refine ⟨?_, nts_iff.mpr fun d hd => ?_⟩
  · cases r with
    | nil => rfl
    | cons p r => rfl
  · obtain ⟨p, _, rfl⟩ := List.mem_map.mp hd
    exact nt_pr p
theorem nt_sk (S : Skin) : NT (skD S) := by
  refine ⟨?_, nts_iff.mpr fun d hd => ?_⟩
  · cases S with
    | nil => rfl
    | cons p r => rfl
  · obtain ⟨p, _, rfl⟩ := List.mem_map.mp hd
    exact nt_row p
mutual
theorem tupD_lstD : ∀ d : Dt, tupD (lstD d) = tupD d
  | .int _ => rfl
  | .tup l => by
    show Dt.tup (tupDs (lstDs l)) = .tup (tupDs l)
    rw [tupDs_lstDs l]
  | .lst l => by
    show Dt.tup (tupDs (lstDs l)) = .tup (tupDs l)
    rw [tupDs_lstDs l]
theorem tupDs_lstDs : ∀ l : List Dt, tupDs (lstDs l) = tupDs l
  | [] => rfl
  | d :: r => by
    show tupD (lstD d) :: tupDs (lstDs r) = tupD d :: tupDs r
    rw [tupD_lstD d, tupDs_lstDs r]
end
theorem fit_lstD : ∀ (n : Nat) (d : Dt), Fit n d → Fit n (lstD d)
  | _, .int _, _ => by
    show Fit _ (.int _)
    unfold Fit
    trivial
  | 0, .tup l, h => h.elim
  | 0, .lst l, h => h.elim
  | n + 1, .tup l, h => ⟨by rw [lstDs_len]; exact h.1, fun d hd => by
    rw [lstDs_map] at hd
    obtain ⟨e, he, rfl⟩ := List.mem_map.mp hd
    exact fit_lstD n e (h.2 e he)⟩
  | n + 1, .lst l, h => ⟨by rw [lstDs_len]; exact h.1, fun d hd => by
    rw [lstDs_map] at hd
    obtain ⟨e, he, rfl⟩ := List.mem_map.mp hd
    exact fit_lstD n e (h.2 e he)⟩
theorem SkL.lists {S : Skin} (h : Shaped S) : SkL (lstD (skD S)) S := ⟨(tupD_lstD _).trans (tupD_sk S), fit_lstD 3 _ (SkL.self h).2⟩
/-- a comprehension that makes known values, whatever its target -/
theorem lc_vs {J : It} {n : Nat} {G : Hp → Prop} {Y : Nat → Hp → V → Hp → Prop} (wk : Walk J n G Y) {g : TG} {te : TE} {vs : List Nat} {σ : L2.St} {H1 : Hp} {D : Addr} {Qd : Hp → Prop} (ys : List V) (hn : ys.length = n) (hl : n ≤ 1000) (nD : H1 D = none)
    (hG : ∀ H, Same H1 H → G H)
    (hs : ∀ (i : Nat) (x : V) (H H' : Hp) (y : V) (C : V → Hp → Prop) (Z : Hp → Prop), i < n → ys[i]? = some y → Same H1 H → Y i H x H' → (∀ H4, Same H H4 → C y H4) →
      g x (wipe σ vs) H' fun σ2 H2 => wipe σ2 vs = wipe σ vs ∧ tYes σ2 H2 fun b H3 => if b = true then te σ2 H3 C else Z H3)
    (hd : ∀ H, Same H1 H → H D = some (.lst ys) → Qd H) :
    ∃ W : Nat → Nat → Hp → Prop, (∃ m, W 0 m (upd H1 D (.lst []))) ∧ ∀ i m H, W i m H →
      (J.stop i H ∧ Qd H) ∨ (J.go i H ∧ ∃ Nx : Hp → Prop, (∀ H', Nx H' → ∃ m', m' < m ∧ W (i + 1) m' H') ∧ ∀ x H', J.yld i H x H' → g x (wipe σ vs) H' fun σ2 H2 => wipe σ2 vs = wipe σ vs ∧ tYes σ2 H2 fun b H3 =>
        if b = true then te σ2 H3 fun y H4 => ∃ acc, H4 D = some (.lst acc) ∧ acc.length < sizeLine ∧ Nx (upd H4 D (.lst (acc ++ [y]))) else Nx H3) := by
  refine lc_it wk (fun i H => Same H1 H ∧ H D = some (.lst (ys.take i))) ⟨sm_upd nD, upd_same⟩ (fun i H hi hp => hG H hp.1) (fun i x H H' hi hp hy => ?_) (fun H hp => ?_)
  · obtain ⟨sm, hD⟩ := hp
    obtain ⟨y, ey⟩ := lt_get (l := ys) (i := i) (by omega)
    refine hs i x H H' y _ _ hi ey sm hy fun H4 s4 => ⟨_, s4 _ _ hD, ?_, sm_upd2 (sm.trans s4) nD, ?_⟩
    · rw [List.length_take]
      exact small1000 (by omega)
    · rw [upd_same, take_snoc ey]
  · obtain ⟨sm, hD⟩ := hp
    rw [List.take_of_length_le (by omega)] at hD
    exact hd H sm hD
theorem clsBS : Paired ClsV [.ty "bool", .ty "str"] [.type "bool", .type "str"] := .cons (.ty _) (.cons (.ty _) .nil)
theorem any_bs {K : PySem.W.Frag} : PySem.W.kitAny K (.type "int") [.type "bool", .type "str"] = some false := kitAny_cons kt_ib (fun _ => kitAny_cons kt_is (fun _ => kitAny_nil) (fun h => Bool.noConfusion h)) (fun h => Bool.noConfusion h)
section
variable {P : Program} {w : World} {K : PySem.W.Frag} {mg : Str → Option Value} {base : Heap}
def spLs (n : Nat) : Sp := fun vs H Q _ => ∃ (v : V) (d : Dt), vs = [v] ∧ Is H v d ∧ Fit n d ∧ NT d ∧ ∀ v' H', Same H H' → Is (nw H H') v' (lstD d) → Q v' H'
abbrev ns_l_lists : List Str := ["_law_matter", "_law_bit"]
theorem sc_l_lists : FnScope ns_l_lists ["_law_matter"] (defScope s_l_lists) := ⟨rfl, rfl, rfl, by decide +kernel, rfl, by decide +kernel, by decide +kernel⟩
theorem ok_l_lists_at (T : Tx K mg) (k n : Nat) (ih : (n = 0) ∨ ∃ m, n = m + 1 ∧ OkD P w K mg base k "_law_lists" ["_law_matter"] (spLs m)) : OkD P w K mg base (k + 1) "_law_lists" ["_law_matter"] (spLs n) := by
  refine T.d_l_lists.ok sc_l_lists (fun vs H Q E h => ?_) (fun cdv A outer s H vs Q E hr h => ?_)
  · obtain ⟨v, d, rfl, _⟩ := h
    rfl
  · obtain ⟨v, d, rfl, hv, hf, hnt, q⟩ := h
    have nn := sc_l_lists.nd
    cases d with
    | int i =>
      cases hv
      refine ⟨_, (pss_one (ps_ret (pe_ifExp (pt_val (pe_callB (cIsiT K) (by rfl) T.m_isinstance bt_isinstance (pa_cons (pv 0) (pa_cons (pe_tup (pa_cons (pe_bltn (by rfl) T.m_list bt_list rfl (v := .ty "list")) (pa_cons (pe_bltn (by rfl) T.m_tuple bt_tuple rfl (v := .ty "tuple")) pa_nil))) pa_nil)))) pe_nv (pv 0)))), ?_⟩
      refine ⟨_, rfl, two_line, fun p np => ?_⟩
      refine ⟨_, p, _, _, _, false, rfl, upd_same, clsLT, .base (.int i), any_i, false, rfl, iteF ?_⟩
      exact ⟨_, rfl, q _ _ (sm_upd np) (.int i)⟩
    | lst l => exact hnt.elim
    | tup l =>
      obtain ⟨a, us, rfl, ha, hl⟩ := hv.tupE
      rcases ih with rfl | ⟨m, rfl, G_l_lists⟩
      · exact hf.elim
      obtain ⟨hlen, hfs⟩ := hf
      obtain ⟨h3, hnts⟩ := hnt
      refine ⟨_, (pss_one (ps_ret (pe_ifExp (pt_val (pe_callB (cIsiT K) (by rfl) T.m_isinstance bt_isinstance (pa_cons (pv 0) (pa_cons (pe_tup (pa_cons (pe_bltn (by rfl) T.m_list bt_list rfl (v := .ty "list")) (pa_cons (pe_bltn (by rfl) T.m_tuple bt_tuple rfl (v := .ty "tuple")) pa_nil))) pa_nil)))) (pe_lc (own := [("_law_bit", 1)]) (g := gName 1) (tt := tYes) rfl nn (piT K (pv 0)) (blkOk_by (N := ns_l_lists) (sc := defScope s_l_lists) (by decide +kernel)) (fun _ _ _ _ _ => (pg_name (i := 1) nn rfl (by first | exact .inl rfl | exact .inr rfl))) (fun _ _ _ _ _ => pts_nil) (fun _ _ _ _ _ => (pe_c G_l_lists hr (Nat.le_refl _) (pa_cons (pv 1) pa_nil)))) (pv 0)))), ?_⟩
      refine ⟨_, rfl, two_line, fun p np => ?_⟩
      have s0 := sm_upd np (o := .tup [.ty "list", .ty "tuple"])
      refine ⟨_, p, _, _, _, true, rfl, upd_same, clsLT, .base (.tup (s0 _ _ ha)), any_t, true, rfl, iteT ?_⟩
      refine ⟨_, rfl, a, rfl, ⟨us, SqT.of (s0 _ _ ha)⟩, fun D nD => ?_⟩
      have hul : us.length = l.length := hl.length
      refine lc_it (walk_tup (K := K) (a := a) (xs := us)) (fun i H3 => ∃ acc, Same (upd H p (.tup [.ty "list", .ty "tuple"])) H3 ∧ H3 D = some (.lst acc) ∧ IsAll (nw (upd (upd H p (.tup [.ty "list", .ty "tuple"])) D (.lst [])) H3) acc ((lstDs l).take i))
        ⟨[], sm_upd nD, upd_same, .nil⟩ (fun i H3 hi hp => ?_) (fun i x H3 H4 hi hp hY => ?_) (fun H3 hp => ?_)
      · obtain ⟨acc, s1, _⟩ := hp
        exact SqT.of (s1 _ _ (s0 _ _ ha))
      · obtain ⟨acc, s1, hD, hacc⟩ := hp
        obtain ⟨rfl, hx⟩ := hY
        obtain ⟨d0, hd0, hxd⟩ := hl.getV hx
        have hal := hacc.length
        rw [List.length_take, lstDs_len] at hal
        refine ⟨rfl, tyes (iteT ?_)⟩
        refine ⟨_, rfl, x, d0, rfl, (hxd.sm s0).sm s1, hfs d0 (List.mem_of_getElem? hd0), nts_iff.mp hnts d0 (List.mem_of_getElem? hd0), fun y H5 s5 hy => ?_⟩
        refine ⟨acc, s5 _ _ hD, small1000 (by omega), acc ++ [y], sm_upd2 (s1.trans s5) nD, upd_same, ?_⟩
        have e1 : (lstDs l)[i]? = some (lstD d0) := by rw [lstDs_map, List.getElem?_map, hd0] <;> rfl
        rw [take_snoc e1]
        refine IsAll.snoc (hacc.sm fun b o hb => ?_) (hy.sm (nw_grow (fun b x hb => ?_) ⟨_, hD⟩ rfl))
        · obtain ⟨g1, g2⟩ := nw_some hb
          have nb : b ≠ D := fun z => by rw [z, upd_same] at g1; cases g1
          exact nw_of g1 (by rw [upd_ne nb]; exact s5 _ _ g2)
        · by_cases z : b = D
          · exact .inl z
          · rw [upd_ne z] at hb
            exact .inr (s1 _ _ hb)
      · obtain ⟨acc, s1, hD, hacc⟩ := hp
        rw [List.take_of_length_le (by rw [lstDs_len]; omega)] at hacc
        have hD0 : H D = none := s0.free nD
        refine q (.ref D) H3 (s0.trans s1) ?_
        show Is _ _ (.lst (lstDs l))
        refine .lst (nw_of hD0 hD) (l3_tin hacc h3) (hacc.sm fun b o hb => ?_)
        obtain ⟨g1, g2⟩ := nw_some hb
        refine nw_of ?_ g2
        cases e : H b with
        | none => rfl
        | some o2 =>
          have nb : b ≠ D := fun z => by rw [z, hD0] at e; cases e
          rw [upd_ne nb, s0 _ _ e] at g1
          cases g1
theorem ok_l_lists (T : Tx K mg) : ∀ n : Nat, OkD P w K mg base (n + 1) "_law_lists" ["_law_matter"] (spLs n)
  | 0 => ok_l_lists_at T 0 0 (.inl rfl)
  | n + 1 => ok_l_lists_at T (n + 1) (n + 1) (.inr ⟨n, rfl, ok_l_lists T n⟩)
def spSame (n : Nat) : Sp := fun vs H Q _ => ∃ (v u : V) (d : Dt), vs = [v, u] ∧ Is H v d ∧ Is H u d ∧ Fit n d ∧ ∀ H', Same H H' → Q (.bl true) H'
abbrev ns_l_same : List Str := ["_law_got", "_law_due", "_law_mine", "_law_its"]
theorem sc_l_same : FnScope ns_l_same ["_law_got", "_law_due"] (defScope s_l_same) := ⟨rfl, rfl, rfl, by decide +kernel, rfl, by decide +kernel, by decide +kernel⟩
theorem ok_l_same_at (T : Tx K mg) (k n : Nat) (ih : (n = 0) ∨ ∃ m, n = m + 1 ∧ OkD P w K mg base k "_law_same" ["_law_got", "_law_due"] (spSame m)) : OkD P w K mg base (k + 1) "_law_same" ["_law_got", "_law_due"] (spSame n) := by
  refine T.d_l_same.ok sc_l_same (fun vs H Q E h => ?_) (fun cdv A outer s H vs Q E hr h => ?_)
  · obtain ⟨v, u, d, rfl, _⟩ := h
    rfl
  · obtain ⟨v, u, d, rfl, hv, hu, hf, q⟩ := h
    have nn := sc_l_same.nd
    cases d with
    | int i =>
      cases hv
      cases hu
      refine ⟨_, (pss_cons (ps_if (pt_val (pe_callB (cIsiT K) (by rfl) T.m_isinstance bt_isinstance (pa_cons (pv 1) (pa_cons (pe_tup (pa_cons (pe_bltn (by rfl) T.m_list bt_list rfl (v := .ty "list")) (pa_cons (pe_bltn (by rfl) T.m_tuple bt_tuple rfl (v := .ty "tuple")) pa_nil))) pa_nil)))) pss_never pss_nil) (pss_cons (ps_if (PW.pt (pw_or (pt_cmpR op_isN (pv 1) pe_non (nomark _)) (pw_or1 (pt_val (pe_callB (cIsiT K) (by rfl) T.m_isinstance bt_isinstance (pa_cons (pv 1) (pa_cons (pe_tup (pa_cons (pe_bltn (by rfl) T.m_bool bt_bool rfl (v := .ty "bool")) (pa_cons (pe_bltn (by rfl) T.m_str bt_str rfl (v := .ty "str")) pa_nil))) pa_nil))))))) pss_never pss_nil) (pss_one (ps_ret (pe_and (pe_callB (cIsi K) (by rfl) T.m_isinstance bt_isinstance (pa_cons (pv 0) (pa_cons (pe_bltn (by rfl) T.m_int bt_int rfl (v := .ty "int")) pa_nil))) (pe_and (pe_not (pe_callB (cIsi K) (by rfl) T.m_isinstance bt_isinstance (pa_cons (pv 0) (pa_cons (pe_bltn (by rfl) T.m_bool bt_bool rfl (v := .ty "bool")) pa_nil)))) (pe_one (pe_cmpR op_eq (pv 0) (pv 1) (nomark _))))))))), ?_⟩
      refine ⟨_, rfl, two_line, fun p np => ?_⟩
      have s0 := sm_upd np (o := .tup [.ty "list", .ty "tuple"])
      refine ⟨_, p, _, _, _, false, rfl, upd_same, clsLT, .base (.int i), any_i, false, rfl, iteF ?_⟩
      refine ⟨_, rfl, rfl, _, rfl, ?_⟩
      rw [eq_false (x := V.int i) (y := V.non) (by intro z; cases z)]
      refine iteF ?_
      refine ⟨_, rfl, two_line, fun p2 np2 => ?_⟩
      have s1 := s0.trans (sm_upd np2 (o := .tup [.ty "bool", .ty "str"]))
      refine ⟨_, p2, _, _, _, false, rfl, upd_same, clsBS, .base (.int i), any_bs, false, rfl, iteF ?_⟩
      refine ⟨_, rfl, _, _, _, _, true, rfl, .ty _, .base (.int i), kt_ii, true, rfl, iteT ?_⟩
      refine ⟨_, rfl, _, _, _, _, false, rfl, .ty _, .base (.int i), kt_ib, false, rfl, true, rfl, iteT ?_⟩
      refine ⟨_, rfl, _, rfl, rfl, ?_⟩
      show Q (.bl (decide (V.int i = V.int i))) _
      rw [decide_eq_true rfl]
      exact q _ s1
    | tup l =>
      obtain ⟨a, us, rfl, ha, hl⟩ := hv.tupE
      obtain ⟨b, ws, rfl, hb, hm⟩ := hu.tupE
      rcases ih with rfl | ⟨m, rfl, G_l_same⟩
      · exact hf.elim
      obtain ⟨hlen, hfs⟩ := hf
      have l1 := hl.length
      have l2 := hm.length
      refine ⟨_, (pss_cons (ps_if (pt_val (pe_callB (cIsiT K) (by rfl) T.m_isinstance bt_isinstance (pa_cons (pv 1) (pa_cons (pe_tup (pa_cons (pe_bltn (by rfl) T.m_list bt_list rfl (v := .ty "list")) (pa_cons (pe_bltn (by rfl) T.m_tuple bt_tuple rfl (v := .ty "tuple")) pa_nil))) pa_nil)))) (pss_cons (ps_if (PW.pt (pw_or (pt_cmpR op_ne (pe_callB (cIsi K) (by rfl) T.m_isinstance bt_isinstance (pa_cons (pv 0) (pa_cons (pe_bltn (by rfl) T.m_list bt_list rfl (v := .ty "list")) pa_nil))) (pe_callB (cIsi K) (by rfl) T.m_isinstance bt_isinstance (pa_cons (pv 1) (pa_cons (pe_bltn (by rfl) T.m_list bt_list rfl (v := .ty "list")) pa_nil))) (nomark _)) (pw_or1 (pt_cmpR op_ne (pe_callB (cIsi K) (by rfl) T.m_isinstance bt_isinstance (pa_cons (pv 0) (pa_cons (pe_bltn (by rfl) T.m_tuple bt_tuple rfl (v := .ty "tuple")) pa_nil))) (pe_callB (cIsi K) (by rfl) T.m_isinstance bt_isinstance (pa_cons (pv 1) (pa_cons (pe_bltn (by rfl) T.m_tuple bt_tuple rfl (v := .ty "tuple")) pa_nil))) (nomark _))))) (pss_one (ps_ret pe_bl)) pss_nil)
      (pss_one (ps_ret (pe_and (pe_cmpR op_eq (pe_callB (cLen K) (by rfl) T.m_len bt_len (pa_cons (pv 0) pa_nil)) (pe_callB (cLen K) (by rfl) T.m_len bt_len (pa_cons (pv 1) pa_nil)) (nomark _)) (pe_one (pe_callB (cAll K) (by rfl) T.m_all bt_all (pa_cons (pe_lc (own := [("_law_mine", 2), ("_law_its", 3)]) (tt := tYes) rfl nn (piZ K T.m_zip (pa_cons (pv 0) (pa_cons (pv 1) pa_nil))) (blkOk_by (N := ns_l_same) (sc := defScope s_l_same) (by decide +kernel)) (fun _ _ _ _ _ => (pgT K (n := 2) (pgs_cons (pg_name (i := 2) nn rfl (by first | exact .inl rfl | exact .inr rfl)) (pgs_cons (pg_name (i := 3) nn rfl (by first | exact .inl rfl | exact .inr rfl)) pgs_nil)))) (fun _ _ _ _ _ => pts_nil) (fun _ _ _ _ _ => (pe_c G_l_same hr (Nat.le_refl _) (pa_cons (pv 2) (pa_cons (pv 3) pa_nil))))) pa_nil))))))) pss_nil) pss_never), ?_⟩
      refine ⟨_, rfl, two_line, fun p np => ?_⟩
      have s0 := sm_upd np (o := .tup [.ty "list", .ty "tuple"])
      have ha0 := s0 _ _ ha
      have hb0 := s0 _ _ hb
      refine ⟨_, p, _, _, _, true, rfl, upd_same, clsLT, .base (.tup hb0), any_t, true, rfl, iteT ?_⟩
      refine ⟨_, rfl, _, _, _, _, false, rfl, .ty _, .base (.tup ha0), kt_tl, _, rfl, _, _, _, _, false, rfl, .ty _, .base (.tup hb0), kt_tl, rfl, _, rfl, iteNe rfl ?_⟩
      refine ⟨_, rfl, _, _, _, _, true, rfl, .ty _, .base (.tup ha0), kt_tt, _, rfl, _, _, _, _, true, rfl, .ty _, .base (.tup hb0), kt_tt, rfl, _, rfl, iteNe rfl ?_⟩
      refine ⟨_, rfl, a, us, rfl, .inr (SqT.of ha0), _, rfl, b, ws, rfl, .inr (SqT.of hb0), rfl, true, congrArg V.bl (decide_eq_true (by rw [l1, l2])), iteT ?_⟩
      refine ⟨_, rfl, _, rfl, a, b, us, ws, rfl, .inr ⟨SqT.of ha0, SqT.of hb0, fun D nD => ?_⟩⟩
      refine lc_vs (walk_zipT (K := K) (a := a) (b := b) (xs := us) (ys := ws) (n := us.length) (by omega)) (List.replicate us.length (.bl true)) List.length_replicate (by omega) nD (fun H3 s3 => ⟨SqT.of (s3 _ _ ha0), SqT.of (s3 _ _ hb0)⟩) (fun i x H3 H4 y C Z hi hy s3 hY hC => ?_) (fun H3 s3 hD => ?_)
      · obtain ⟨t, xi, xe, rfl, nt, rfl, e1, e2⟩ := hY
        rw [rep_get hy] at hC
        obtain ⟨d0, hd0, hx0⟩ := hl.getV e1
        obtain ⟨d1, hd1, hx1⟩ := hm.getV e2
        obtain rfl : d0 = d1 := Option.some.inj (hd0.symm.trans hd1)
        have s4 := sm_upd nt (o := .tup [xi, xe])
        have ss := (s0.trans s3).trans s4
        refine ⟨t, [_, _], rfl, SqT.of upd_same, rfl, _, _, rfl, _, _, rfl, rfl, rfl, tyes (iteT ?_)⟩
        exact ⟨_, rfl, _, rfl, xi, xe, d0, rfl, hx0.sm ss, hx1.sm ss, hfs d0 (List.mem_of_getElem? hd0), fun H' s' => hC _ (s4.trans s')⟩
      · refine ⟨D, List.replicate us.length true, rfl, SqL.of (by rw [rep_bl]; exact hD), ?_⟩
        rw [all_rep]
        exact q _ (s0.trans s3)
    | lst l =>
      obtain ⟨a, us, rfl, ha, _, hl⟩ := hv.lstE
      obtain ⟨b, ws, rfl, hb, _, hm⟩ := hu.lstE
      rcases ih with rfl | ⟨m, rfl, G_l_same⟩
      · exact hf.elim
      obtain ⟨hlen, hfs⟩ := hf
      have l1 := hl.length
      have l2 := hm.length
      refine ⟨_, (pss_cons (ps_if (pt_val (pe_callB (cIsiT K) (by rfl) T.m_isinstance bt_isinstance (pa_cons (pv 1) (pa_cons (pe_tup (pa_cons (pe_bltn (by rfl) T.m_list bt_list rfl (v := .ty "list")) (pa_cons (pe_bltn (by rfl) T.m_tuple bt_tuple rfl (v := .ty "tuple")) pa_nil))) pa_nil)))) (pss_cons (ps_if (PW.pt (pw_or (pt_cmpR op_ne (pe_callB (cIsi K) (by rfl) T.m_isinstance bt_isinstance (pa_cons (pv 0) (pa_cons (pe_bltn (by rfl) T.m_list bt_list rfl (v := .ty "list")) pa_nil))) (pe_callB (cIsi K) (by rfl) T.m_isinstance bt_isinstance (pa_cons (pv 1) (pa_cons (pe_bltn (by rfl) T.m_list bt_list rfl (v := .ty "list")) pa_nil))) (nomark _)) (pw_or1 (pt_cmpR op_ne (pe_callB (cIsi K) (by rfl) T.m_isinstance bt_isinstance (pa_cons (pv 0) (pa_cons (pe_bltn (by rfl) T.m_tuple bt_tuple rfl (v := .ty "tuple")) pa_nil))) (pe_callB (cIsi K) (by rfl) T.m_isinstance bt_isinstance (pa_cons (pv 1) (pa_cons (pe_bltn (by rfl) T.m_tuple bt_tuple rfl (v := .ty "tuple")) pa_nil))) (nomark _))))) (pss_one (ps_ret pe_bl)) pss_nil)
      (pss_one (ps_ret (pe_and (pe_cmpR op_eq (pe_callB (cLen K) (by rfl) T.m_len bt_len (pa_cons (pv 0) pa_nil)) (pe_callB (cLen K) (by rfl) T.m_len bt_len (pa_cons (pv 1) pa_nil)) (nomark _)) (pe_one (pe_callB (cAll K) (by rfl) T.m_all bt_all (pa_cons (pe_lc (own := [("_law_mine", 2), ("_law_its", 3)]) (tt := tYes) rfl nn (piZ K T.m_zip (pa_cons (pv 0) (pa_cons (pv 1) pa_nil))) (blkOk_by (N := ns_l_same) (sc := defScope s_l_same) (by decide +kernel)) (fun _ _ _ _ _ => (pgT K (n := 2) (pgs_cons (pg_name (i := 2) nn rfl (by first | exact .inl rfl | exact .inr rfl)) (pgs_cons (pg_name (i := 3) nn rfl (by first | exact .inl rfl | exact .inr rfl)) pgs_nil)))) (fun _ _ _ _ _ => pts_nil) (fun _ _ _ _ _ => (pe_c G_l_same hr (Nat.le_refl _) (pa_cons (pv 2) (pa_cons (pv 3) pa_nil))))) pa_nil))))))) pss_nil) pss_never), ?_⟩
      refine ⟨_, rfl, two_line, fun p np => ?_⟩
      have s0 := sm_upd np (o := .tup [.ty "list", .ty "tuple"])
      have ha0 := s0 _ _ ha
      have hb0 := s0 _ _ hb
      refine ⟨_, p, _, _, _, true, rfl, upd_same, clsLT, .base (.lst hb0), any_l, true, rfl, iteT ?_⟩
      refine ⟨_, rfl, _, _, _, _, true, rfl, .ty _, .base (.lst ha0), kt_ll, _, rfl, _, _, _, _, true, rfl, .ty _, .base (.lst hb0), kt_ll, rfl, _, rfl, iteNe rfl ?_⟩
      refine ⟨_, rfl, _, _, _, _, false, rfl, .ty _, .base (.lst ha0), kt_lt, _, rfl, _, _, _, _, false, rfl, .ty _, .base (.lst hb0), kt_lt, rfl, _, rfl, iteNe rfl ?_⟩
      refine ⟨_, rfl, a, us, rfl, .inl (SqL.of ha0), _, rfl, b, ws, rfl, .inl (SqL.of hb0), rfl, true, congrArg V.bl (decide_eq_true (by rw [l1, l2])), iteT ?_⟩
      refine ⟨_, rfl, _, rfl, a, b, us, ws, rfl, .inl ⟨SqL.of ha0, SqL.of hb0, fun D nD => ?_⟩⟩
      refine lc_vs (walk_zip (K := K) (a := a) (b := b) (xs := us) (ys := ws) (n := us.length) (by omega)) (List.replicate us.length (.bl true)) List.length_replicate (by omega) nD (fun H3 s3 => ⟨SqL.of (s3 _ _ ha0), SqL.of (s3 _ _ hb0)⟩) (fun i x H3 H4 y C Z hi hy s3 hY hC => ?_) (fun H3 s3 hD => ?_)
      · obtain ⟨t, xi, xe, rfl, nt, rfl, e1, e2⟩ := hY
        rw [rep_get hy] at hC
        obtain ⟨d0, hd0, hx0⟩ := hl.getV e1
        obtain ⟨d1, hd1, hx1⟩ := hm.getV e2
        obtain rfl : d0 = d1 := Option.some.inj (hd0.symm.trans hd1)
        have s4 := sm_upd nt (o := .tup [xi, xe])
        have ss := (s0.trans s3).trans s4
        refine ⟨t, [_, _], rfl, SqT.of upd_same, rfl, _, _, rfl, _, _, rfl, rfl, rfl, tyes (iteT ?_)⟩
        exact ⟨_, rfl, _, rfl, xi, xe, d0, rfl, hx0.sm ss, hx1.sm ss, hfs d0 (List.mem_of_getElem? hd0), fun H' s' => hC _ (s4.trans s')⟩
      · refine ⟨D, List.replicate us.length true, rfl, SqL.of (by rw [rep_bl]; exact hD), ?_⟩
        rw [all_rep]
        exact q _ (s0.trans s3)
theorem ok_l_same (T : Tx K mg) : ∀ n : Nat, OkD P w K mg base (n + 1) "_law_same" ["_law_got", "_law_due"] (spSame n)
  | 0 => ok_l_same_at T 0 0 (.inl rfl)
  | n + 1 => ok_l_same_at T (n + 1) (n + 1) (.inr ⟨n, rfl, ok_l_same T n⟩)
end
end Hp5

set_option maxHeartbeats 4000000
/-! the script's cells, and the source of draws that they make -/
namespace Hp5
open PySem PySem.Spec PyProof.Rows L2
theorem sqL_sm {K : PySem.W.Frag} {H H' : Hp} {a : Addr} {xs : List V} (h : SqL K H a xs) (s : Same H H') : SqL K H' a xs := by
  rcases h with (h | ⟨o, h⟩) | h
  · exact .inl (.inl (s _ _ h))
  · exact .inl (.inr ⟨o, s _ _ h⟩)
  · exact .inr h
theorem cut_int {ns : List Int} {lo hi : Option Int} : ∀ x ∈ cutV (ns.map V.int) lo hi, ∃ i, x = V.int i := fun x hx => by
  unfold cutV at hx
  obtain ⟨i, _, rfl⟩ := List.mem_map.mp (List.mem_of_mem_drop (List.mem_of_mem_take hx))
  exact ⟨i, rfl⟩
theorem cut_one (i : Int) (r : List Int) : cutV ((i :: r).map V.int) none (some 1) = [V.int i] := by
  unfold cutV
  rw [sIx_one, HT.sIx_none]
  show ((V.int i :: r.map V.int).drop 0).take (min 1 (V.int i :: r.map V.int).length - 0) = _
  rw [List.length_cons, Nat.min_eq_left (by omega)] <;> rfl
where sIx_one {n d : Nat} : HT.sIx n d (some 1) = min 1 n := HT.sIx_nat n d 1
theorem bit_small (k : Bool) : -(2 ^ 64) < (if k = true then (1 : Int) else 0) ∧ (if k = true then (1 : Int) else 0) < 2 ^ 64 := by
  cases k <;> decide
theorem cut_nil : cutV (([] : List Int).map V.int) none (some 1) = [] := by
  unfold cutV
  show (([] : List V).drop _).take _ = []
  rw [List.drop_nil, List.take_nil]
section
variable {P : Program} {w : World} {K : PySem.W.Frag} {mg : Str → Option Value} {base : Heap}
def spCells : Sp := fun vs H Q _ => ∃ (a : Addr) (ns : List Int), vs = [.ref a, .int 1] ∧ SqL K H a (ns.map V.int) ∧ ns.length ≤ 1000 ∧ ∀ c i H', Same H H' → H' c = some (.lst [.int i]) → Q (.ref c) H'
abbrev ns_l_cells : List Str := ["_law_script", "_law_most_so", "_law_cells_so", "_law_k", "_law_bit_so", "_law_at_so"]
theorem sc_l_cells : FnScope ns_l_cells ["_law_script", "_law_most_so"] (defScope s_l_cells) := ⟨rfl, rfl, rfl, by decide +kernel, rfl, by decide +kernel, by decide +kernel⟩
theorem ok_l_cells (T : Tx K mg) : OkD P w K mg base 1 "_law_cells" ["_law_script", "_law_most_so"] (spCells (K := K)) := by
  refine T.d_l_cells.ok sc_l_cells (fun vs H Q E h => ?_) (fun cdv A outer s H vs Q E hr h => ?_)
  · obtain ⟨a, ns, rfl, _⟩ := h
    rfl
  · obtain ⟨a, ns, rfl, ha, hl, q⟩ := h
    have nn := sc_l_cells.nd
    -- slots: 0 _law_script, 1 _law_most_so, 2 _law_cells_so, 3 _law_k, 4 _law_bit_so, 5 _law_at_so; calls:
    refine ⟨_, (pss_cons (ps_set (i := 2) nn rfl (by first | exact .inl rfl | exact .inr rfl) (pe_orT (pe_callTy (cLst K) (by rfl) T.m_list bt_list (pa_cons (pe_slice (slL K) (pv 0) po_none (po_some (pv 1))) pa_nil)) (pe_one (pe_lst (pa_cons pe_int pa_nil)))))
      (pss_cons (ps_for PassesOwn.never rfl (piEL K T.m_enumerate (pa_cons (pe_slice (slL K) (pv 0) (po_some (pv 1)) (po_some pe_int)) pa_nil)) (pgT K (n := 2) (pgs_cons (pg_name (i := 3) nn rfl (by first | exact .inl rfl | exact .inr rfl)) (pgs_cons (pg_name (i := 4) nn rfl (by first | exact .inl rfl | exact .inr rfl)) pgs_nil))) (pss_cons (ps_set (i := 5) nn rfl (by first | exact .inl rfl | exact .inr rfl) (pe_op op_mod (pe_callTy call_int1 (by rfl) T.m_int bt_int (pa_cons (pv 3) pa_nil)) (pv 1)))
      (pss_one (ps_asg (pe_op op_add (pe_ix (ixL K) (pv 2) (pv 5) (fun _ _ => rfl)) (pe_op op_mul (pv 4) (pe_op op_add (pv 3) pe_int))) (pg_sub (pv 2) (pv 5) set_list)))))
      (pss_one (ps_ret (pv 2))))), ?_⟩
    refine ⟨_, rfl, _, rfl, 1, rfl, a, _, rfl, ha, fun p np => ?_⟩
    have s0 := sm_upd np (o := .lst (cutV (ns.map V.int) none (some 1)))
    refine ⟨p, _, rfl, .inl (SqL.of upd_same), fun l nl => ?_⟩
    have s1 := s0.trans (sm_upd nl (o := .lst (cutV (ns.map V.int) none (some 1))))
    have nl0 : H l = none := s0.free nl
    refine ⟨_, .inl ⟨_, SqL.of upd_same, rfl⟩, ?_⟩
    refine ite2 (fun c1 => ?_) (fun c1 => ?_)
    rotate_left
    · -- none: [0]
      refine ⟨(show 1 ≤ sizeLine by decide), fun c nc => ?_⟩
      have nc0 : H c = none := s1.free nc
      have sc := s1.trans (sm_upd nc (o := .lst [.int 0]))
      obtain ⟨iv, hc⟩ : ∃ iv, (upd (upd (upd H p (.lst (cutV (ns.map V.int) none (some 1)))) l (.lst (cutV (ns.map V.int) none (some 1)))) c (.lst [.int 0])) c = some (.lst [.int iv]) := ⟨0, upd_same⟩
      revert hc nc0 sc
      generalize upd (upd (upd H p (.lst (cutV (ns.map V.int) none (some 1)))) l (.lst (cutV (ns.map V.int) none (some 1)))) c (.lst [.int 0]) = H1
      intro nc0 sc hc
      refine ⟨_, rfl, _, rfl, 1, rfl, 63, rfl, a, _, rfl, sqL_sm ha sc, fun p2 np2 => ?_⟩
      have s2 := sc.trans (sm_upd np2 (o := .lst (cutV (ns.map V.int) (some 1) (some 63))))
      have hc2 := sm_upd np2 (o := .lst (cutV (ns.map V.int) (some 1) (some 63))) _ _ hc
      have hpc : p2 ≠ c := (ne_of_none hc np2).symm
      refine ⟨p2, _, rfl, SqL.of upd_same, ?_⟩
      refine for_it (walk_enum (K := K) (a := p2) (xs := cutV (ns.map V.int) (some 1) (some 63))) (fun k σ H3 => ∃ iv y3 y4 y5, σ = [some (.ref a), some (.int 1), some (.ref c), y3, y4, y5] ∧ Same H H3 ∧ H3 c = some (.lst [.int iv]) ∧ H3 p2 = some (.lst (cutV (ns.map V.int) (some 1) (some 63))))
        ⟨iv, _, _, _, rfl, s2, hc2, upd_same⟩ (fun k σ H3 hk hp => ?_) (fun k x σ H3 H4 hk hp hY => ?_) (fun σ H3 hp => ?_)
      · obtain ⟨_, _, _, _, _, _, _, h2⟩ := hp
        exact SqL.of h2
      · obtain ⟨iv, y3, y4, y5, rfl, s3, hc3, hp3⟩ := hp
        obtain ⟨t, xi, xe, rfl, nt, rfl, e1, e2⟩ := hY
        cases e1
        obtain ⟨j, rfl⟩ := cut_int xe (List.mem_of_getElem? e2)
        have s4 := sm_upd nt (o := .tup [.int (k : Nat), .int j])
        refine ⟨t, [_, _], rfl, SqT.of upd_same, rfl, _, _, rfl, _, _, rfl, rfl, ?_⟩
        refine ⟨_, rfl, .inl ⟨_, rfl, _, rfl, _, _, rfl, rfl, (show (0 : Int) < 1 by decide), ?_⟩⟩
        refine ⟨_, rfl, _, rfl, c, _, _, _, rfl, rfl, SqL.of (s4 _ _ hc3), (by rw [Int.emod_one]; exact atI_nat (j := 0) rfl), ?_⟩
        refine ⟨_, rfl, _, rfl, _, _, rfl, rfl, _, _, rfl, rfl, .inr ⟨?_, ?_⟩, _, _, rfl, rfl, ?_⟩
        · omega
        · have := cutV_length (ns.map V.int) (some 1) (some 63)
          rw [List.length_map] at this
          omega
        refine ⟨_, rfl, _, rfl, c, _, _, 0, rfl, rfl, s4 _ _ hc3, (by rw [Int.emod_one] <;> rfl), ?_⟩
        exact ⟨_, _, _, _, rfl, sm_upd2 (s3.trans s4) nc0, upd_same, by rw [upd_ne hpc]; exact s4 _ _ hp3⟩
      · obtain ⟨iv, y3, y4, y5, rfl, s3, hc3, hp3⟩ := hp
        exact ⟨_, rfl, q c iv H3 s3 hc3⟩
    · -- the first
      cases ns with
      | nil =>
        rw [cut_nil] at c1
        cases c1
      | cons i0 r0 =>
      obtain ⟨iv, hc⟩ : ∃ iv, (upd (upd H p (.lst (cutV ((i0 :: r0).map V.int) none (some 1)))) l (.lst (cutV ((i0 :: r0).map V.int) none (some 1)))) l = some (.lst [.int iv]) := ⟨i0, by rw [upd_same, cut_one]⟩
      revert hc nl0 s1
      generalize upd (upd H p (.lst (cutV ((i0 :: r0).map V.int) none (some 1)))) l (.lst (cutV ((i0 :: r0).map V.int) none (some 1))) = H1
      intro nc0 sc hc
      revert ha hl
      generalize i0 :: r0 = ns
      intro ha hl
      refine ⟨_, rfl, _, rfl, 1, rfl, 63, rfl, a, _, rfl, sqL_sm ha sc, fun p2 np2 => ?_⟩
      have s2 := sc.trans (sm_upd np2 (o := .lst (cutV (ns.map V.int) (some 1) (some 63))))
      have hc2 := sm_upd np2 (o := .lst (cutV (ns.map V.int) (some 1) (some 63))) _ _ hc
      have hpc : p2 ≠ l := (ne_of_none hc np2).symm
      refine ⟨p2, _, rfl, SqL.of upd_same, ?_⟩
      refine for_it (walk_enum (K := K) (a := p2) (xs := cutV (ns.map V.int) (some 1) (some 63))) (fun k σ H3 => ∃ iv y3 y4 y5, σ = [some (.ref a), some (.int 1), some (.ref l), y3, y4, y5] ∧ Same H H3 ∧ H3 l = some (.lst [.int iv]) ∧ H3 p2 = some (.lst (cutV (ns.map V.int) (some 1) (some 63))))
        ⟨iv, _, _, _, rfl, s2, hc2, upd_same⟩ (fun k σ H3 hk hp => ?_) (fun k x σ H3 H4 hk hp hY => ?_) (fun σ H3 hp => ?_)
      · obtain ⟨_, _, _, _, _, _, _, h2⟩ := hp
        exact SqL.of h2
      · obtain ⟨iv, y3, y4, y5, rfl, s3, hc3, hp3⟩ := hp
        obtain ⟨t, xi, xe, rfl, nt, rfl, e1, e2⟩ := hY
        cases e1
        obtain ⟨j, rfl⟩ := cut_int xe (List.mem_of_getElem? e2)
        have s4 := sm_upd nt (o := .tup [.int (k : Nat), .int j])
        refine ⟨t, [_, _], rfl, SqT.of upd_same, rfl, _, _, rfl, _, _, rfl, rfl, ?_⟩
        refine ⟨_, rfl, .inl ⟨_, rfl, _, rfl, _, _, rfl, rfl, (show (0 : Int) < 1 by decide), ?_⟩⟩
        refine ⟨_, rfl, _, rfl, l, _, _, _, rfl, rfl, SqL.of (s4 _ _ hc3), (by rw [Int.emod_one]; exact atI_nat (j := 0) rfl), ?_⟩
        refine ⟨_, rfl, _, rfl, _, _, rfl, rfl, _, _, rfl, rfl, .inr ⟨?_, ?_⟩, _, _, rfl, rfl, ?_⟩
        · omega
        · have := cutV_length (ns.map V.int) (some 1) (some 63)
          rw [List.length_map] at this
          omega
        refine ⟨_, rfl, _, rfl, l, _, _, 0, rfl, rfl, s4 _ _ hc3, (by rw [Int.emod_one] <;> rfl), ?_⟩
        exact ⟨_, _, _, _, rfl, sm_upd2 (s3.trans s4) nc0, upd_same, by rw [upd_ne hpc]; exact s4 _ _ hp3⟩
      · obtain ⟨iv, y3, y4, y5, rfl, s3, hc3, hp3⟩ := hp
        exact ⟨_, rfl, q l iv H3 s3 hc3⟩
def spBox : Sp := fun vs H Q _ => ∃ (c : Addr) (i : Int), vs = [.ref c, .int 0] ∧ H c = some (.lst [.int i]) ∧ ∀ t H', Same H H' → TinA H' t 0 → Q (.ref t) H'
abbrev ns_l_box : List Str := ["_law_script", "_law_k", "_law_bit_so"]
theorem sc_l_box : FnScope ns_l_box ["_law_script", "_law_k"] (defScope s_l_box) := ⟨rfl, rfl, rfl, by decide +kernel, rfl, by decide +kernel, by decide +kernel⟩
theorem ok_l_box (T : Tx K mg) : OkD P w K mg base 1 "_law_box" ["_law_script", "_law_k"] spBox := by
  refine T.d_l_box.ok sc_l_box (fun vs H Q E h => ?_) (fun cdv A outer s H vs Q E hr h => ?_)
  · obtain ⟨c, i, rfl, _⟩ := h
    rfl
  · obtain ⟨c, i, rfl, hc, q⟩ := h
    have nn := sc_l_box.nd
    -- slots: 0 _law_script, 1 _law_k, 2 _law_bit_so; calls:
    refine ⟨_, (pss_cons (ps_set (i := 2) nn rfl (by first | exact .inl rfl | exact .inr rfl) (pe_ifExp (pt_cmpR op_lt (pv 1) (pe_callB (cLen K) (by rfl) T.m_len bt_len (pa_cons (pv 0) pa_nil)) (nomark _)) (pe_ix (ixL K) (pv 0) (pv 1) (fun _ _ => rfl)) pe_int))
      (pss_one (ps_ret (pe_lst (pa_cons (pe_op op_mul (pe_callB call_abs (by rfl) T.m_abs bt_abs (pa_cons (pv 2) pa_nil)) (pe_callTy call_int1 (by rfl) T.m_int bt_int (pa_cons (pe_cmpR op_ge (pe_callB call_abs (by rfl) T.m_abs bt_abs (pa_cons (pv 2) pa_nil)) (pe_op op_pow pe_int pe_int) (nomark _)) pa_nil))) (pa_cons (pe_op op_add (pe_op op_add (pe_op op_mod (pe_callTy call_int1 (by rfl) T.m_int bt_int (pa_cons (pv 2) pa_nil)) pe_int) (pe_op op_mul pe_int (pv 1))) pe_int) (pa_cons pe_int pa_nil))))))), ?_⟩
    refine ⟨_, rfl, _, rfl, c, [_], rfl, .inl (SqL.of hc), _, _, rfl, rfl, _, rfl, ?_⟩
    refine ite2 (fun c1 => ?_) (fun c1 => absurd (show decide ((0 : Int) < ((1 : Nat) : Int)) = true from rfl) c1)
    refine ⟨_, rfl, _, rfl, c, _, 0, _, rfl, rfl, SqL.of hc, atI_nat (j := 0) rfl, ?_⟩
    refine ⟨_, rfl, _, rfl, _, rfl, _, rfl, _, _, rfl, rfl, ⟨by decide, by decide, by decide⟩, _, _, rfl, rfl, ?_⟩
    refine .inr ⟨_, rfl, _, _, rfl, rfl, .inr (bit_small _), ?_⟩
    refine ⟨_, rfl, .inl ⟨_, rfl, _, _, rfl, rfl, (show (0 : Int) < 2305843009213693951 by decide), _, rfl, _, _, rfl, rfl, .inl ⟨by decide, by decide⟩, _, _, rfl, rfl, _, _, rfl, rfl, ?_⟩⟩
    refine ⟨(show 3 ≤ sizeLine by decide), fun t nt => ?_⟩
    exact q t _ (sm_upd nt) ⟨_, _, 0, upd_same, Int.le_refl _, Int.le_refl _⟩
end
end Hp5

set_option maxHeartbeats 4000000
/-! what the law draws, and looks at -/
namespace Hp5
open PySem PySem.Spec PyProof.Rows L2
theorem refs_rows {H : Hp} : ∀ {ws : List V} {l : List (List Pr)}, IsAll H ws (l.map rowD) → Refs ws
  | _, [], h => by
    cases h
    exact Refs.nil
  | _, p :: r, h => by
    cases h with
    | cons h1 h2 =>
      obtain ⟨a, _, rfl, _⟩ := h1.tupE
      intro v hv
      rcases List.mem_cons.mp hv with rfl | hv
      · exact ⟨a, rfl⟩
      · exact refs_rows h2 v hv
/-- what stands while the law looks at a skin -/
structure RC (S : Skin) (t : Addr) (hv sv : V) (rl ad nm : Addr) (ws : List V) (H : Hp) (m : Nat) : Prop where
  tin : TinA H t m
  hide : Is H hv (skD S)
  soft : Is H sv (lstD (skD S))
  rows : H rl = some (.lst ws)
  cells : IsAll H ws ((cornersM S).map rowD)
  ats : H ad = some (.dT (kd (atM (cornersM S))))
  names : H nm = some (.dT (kd (namesM S)))
theorem RC.sm {S : Skin} {t : Addr} {hv sv : V} {rl ad nm : Addr} {ws : List V} {H H' : Hp} {m : Nat} (h : RC S t hv sv rl ad nm ws H m) (s : Same H H') : RC S t hv sv rl ad nm ws H' m :=
  ⟨h.tin.sm s, h.hide.sm s, h.soft.sm s, s _ _ h.rows, h.cells.sm s, s _ _ h.ats, s _ _ h.names⟩
theorem RC.t {S : Skin} {t : Addr} {hv sv : V} {rl ad nm : Addr} {ws : List V} {H : Hp} {m : Nat} {o : HO} (h : RC S t hv sv rl ad nm ws H m) (ht : TinA (upd H t o) t (m + 1)) : RC S t hv sv rl ad nm ws (upd H t o) (m + 1) := by
  have st : Stay H (upd H t o) := (Fr.t o).st h.tin
  exact ⟨ht, h.hide.st st, h.soft.st st, st _ _ h.rows (refs_rows h.cells).nt, h.cells.st st, st _ _ h.ats (nt_dT _), st _ _ h.names (nt_dT _)⟩
theorem lots_get {H : Hp} {d c : Addr} {n : Nat} {v : List Nat} {p : Pr} (hd : Rd H d (.dT (kd (lotK n v)))) (hc : H c = some (.tup [.int p.1, .int p.2])) (hp : InR n p) : DGet H d (.ref c) (some (.int ((Lab v p : Nat) : Int))) := by
  refine .inr ⟨kd (lotK n v), pk p, c, hd, rfl, hc, ?_⟩
  rw [valV_kd]
  have := lotK_at v (ix_lt hp)
  rw [prAt_ix hp] at this
  exact this.symm
theorem sm_unlock {H H' : Hp} {d : Addr} {u x : HO} (hd : H d = some u) (s : Same (upd H d x) H') : Same H (upd H' d u) := fun b o e => by
  by_cases z : b = d
  · rw [z, upd_same, ← hd, ← z, e]
  · rw [upd_ne z]
    exact s _ _ (by rw [upd_ne z]; exact e)
theorem count_fs {α : Type} (P : α → Prop) [DecidablePred P] (d : Dt) (l : List α) : ((l.map fun k => if P k then some d else none).filterMap id).length = (l.filter fun k => decide (P k)).length := by
  induction l with
  | nil => rfl
  | cons q r ih =>
    rw [List.map_cons]
    by_cases h : P q
    · rw [if_pos h, List.filter_cons_of_pos (by simpa using h), List.length_cons, ← ih] <;> rfl
    · rw [if_neg h, List.filter_cons_of_neg (by simpa using h), ← ih] <;> rfl
theorem fit_ints (n : Nat) {l : List Dt} (h : l.length ≤ 1000) (hi : ∀ d ∈ l, ∃ i, d = .int i) : Fit (n + 1) (.tup l) := ⟨h, fun d hd => by
  obtain ⟨i, rfl⟩ := hi d hd
  unfold Fit
  trivial⟩
theorem fit_int (n : Nat) (i : Int) : Fit n (.int i) := by
  unfold Fit
  trivial
def rowsD (S : Skin) : Dt := .lst [skD (cornersM S), skD (cornersM S), .tup ((cornersM S).map fun r => Dt.int (r.length : Nat))]
theorem fit_rows {S : Skin} (vd : Valid S) : Fit 4 (rowsD S) := by
  have few := vd.sh.few
  have hl := rows_len vd
  refine ⟨by show 3 ≤ 1000; decide, fun d hd => ?_⟩
  have hs : Fit 3 (skD (cornersM S)) := fit_sk 0 (by omega) fun r hr => by have := (row_facts vd hr).2.1; omega
  rcases List.mem_cons.mp hd with rfl | hd
  · exact hs
  rcases List.mem_cons.mp hd with rfl | hd
  · exact hs
  rcases List.mem_cons.mp hd with rfl | hd
  · refine fit_ints 2 (by rw [List.length_map]; omega) fun d hd => ?_
    obtain ⟨r, _, rfl⟩ := List.mem_map.mp hd
    exact ⟨_, rfl⟩
  · exact absurd hd List.not_mem_nil
def drawD (S : Skin) (f a e k : Nat) : Dt := .lst [.int (lookN (atM (cornersM S)) (f, a) : Nat), .tup ((List.range 4).map fun b => Dt.int (lookN (atM (cornersM S)) (f, b) : Nat)), prD ((endsM S).getD e (0, 0)), .tup ((roundM S ((cornersM S).getD k [])).map fun e : Nat => Dt.int e)]
theorem fit_draw {S : Skin} (vd : Valid S) (f a e : Nat) {k : Nat} (hk : k < (cornersM S).length) : Fit 4 (drawD S f a e k) := by
  have few := vd.sh.few
  refine ⟨by show 4 ≤ 1000; decide, fun d hd => ?_⟩
  rcases List.mem_cons.mp hd with rfl | hd
  · exact fit_int _ _
  rcases List.mem_cons.mp hd with rfl | hd
  · refine fit_ints 2 (by rw [List.length_map, List.length_range]; decide) fun d hd => ?_
    obtain ⟨b, _, rfl⟩ := List.mem_map.mp hd
    exact ⟨_, rfl⟩
  rcases List.mem_cons.mp hd with rfl | hd
  · exact fit_pr 2 _
  rcases List.mem_cons.mp hd with rfl | hd
  · obtain ⟨r, er⟩ := lt_get hk
    have eg : (cornersM S).getD k [] = r := by rw [List.getD_eq_getElem?_getD, er] <;> rfl
    have := (row_facts vd (List.mem_of_getElem? er)).2.1
    refine fit_ints 2 (by unfold roundM; rw [eg, List.length_map, List.length_map]; omega) fun d hd => ?_
    obtain ⟨b, _, rfl⟩ := List.mem_map.mp hd
    exact ⟨_, rfl⟩
  · exact absurd hd List.not_mem_nil
section
variable {P : Program} {w : World} {K : PySem.W.Frag} {mg : Str → Option Value} {base : Heap}
def spRight : Sp := fun vs H Q _ => ∃ (t : Addr), vs = [.ref t] ∧ TinA H t 0 ∧ ∀ H', Q (.bl true) H'
abbrev ns_l_right : List Str := ["_law_tin", "_law_lap", "_law_hide", "_law_soft_so", "_law_rows_so", "_law_lots_so", "_law_row", "_law_at_so", "_law_names_so", "_law_k", "_law_own", "_law_got", "_law_more", "_law_f", "_law_a", "_law_e", "_law_due", "_law_b", "_law_g"]
theorem sc_l_right : FnScope ns_l_right ["_law_tin"] (defScope s_l_right) := ⟨rfl, rfl, rfl, by decide +kernel, rfl, by decide +kernel, by decide +kernel⟩
theorem ok_l_right (T : Tx K mg) : OkD P w K mg base 8 "_law_right" ["_law_tin"] spRight := by
  have G_l_any_hide : OkD P w K mg base 5 "_law_any_hide" ["_law_tin", "_law_most_so"] spAny := ok_l_any_hide T
  have G_l_lists : OkD P w K mg base 4 "_law_lists" ["_law_matter"] (spLs 3) := ok_l_lists T 3
  have G_l_corners : OkD P w K mg base 1 "_law_corners" ["_law_hide"] spLCorners := ok_l_corners T
  have G_l_lots_of_ends : OkD P w K mg base 1 "_law_lots_of_ends" ["_law_hide"] spLots := ok_l_lots T
  have G_l_names : OkD P w K mg base 2 "_law_names" ["_law_hide"] spNames := ok_l_names T
  have G_l_ends : OkD P w K mg base 2 "_law_ends" ["_law_hide"] spEnds := ok_l_ends T
  have G_l_take : OkD P w K mg base 1 "_law_take" ["_law_tin", "_law_below_so"] spTake := ok_l_take T
  have G_l_same : OkD P w K mg base 5 "_law_same" ["_law_got", "_law_due"] (spSame 4) := ok_l_same T 4
  have G_corners : OkD P w K mg base 7 "corners" ["skin"] spCorners := ok_corners T
  have G_corner_sizes : OkD P w K mg base 7 "corner_sizes" ["skin"] spSizes := ok_corner_sizes T
  have G_corner_of : OkD P w K mg base 7 "corner_of" ["skin", "field", "side"] spCof := ok_corner_of T
  have G_corners_at : OkD P w K mg base 7 "corners_at" ["skin", "field"] spCat := ok_corners_at T
  have G_ends_of : OkD P w K mg base 7 "ends_of" ["skin", "edge"] spEof := ok_ends_of T
  have G_edges_round : OkD P w K mg base 7 "edges_round" ["skin", "corner"] spRound := ok_edges_round T
  refine T.d_l_right.ok sc_l_right (fun vs H Q E h => ?_) (fun cdv A outer s H vs Q E hr h => ?_)
  · obtain ⟨t, rfl, _⟩ := h
    rfl
  · obtain ⟨t, rfl, ht, q⟩ := h
    have nn := sc_l_right.nd
    have hu := hu_of hr
    -- slots: 0 _law_tin, 1 _law_lap, 2 _law_hide, 3 _law_soft_so, 4 _law_rows_so, 5 _law_lots_so, 6 _law_row, 7 _law_at_so, 8 _law_names_so, 9 _law_k, 10 _law_own, 11 _law_got, 12 _law_more, 13 _law_f, 14 _law_a, 15 _law_e, 16 _law_due, 17 _law_b, 18 _law_g; calls: _law_any_hide, _law_corners, _law_ends, _law_lists, _law_lots_of_ends, _law_names, _law_same, _law_take, corner_of, corner_sizes, corners, corners_at, edges_round, ends_of
    refine ⟨_, (pss_cons (ps_for PassesOwn.never rfl (pi_range1 (by rfl) T.m_range (pa_cons pe_int pa_nil)) (pg_name (i := 1) nn rfl (by first | exact .inl rfl | exact .inr rfl)) (pss_cons (ps_set (i := 2) nn rfl (by first | exact .inl rfl | exact .inr rfl) (pe_c G_l_any_hide hr (by decide) (pa_cons (pv 0) (pa_cons pe_int pa_nil))))
      (pss_cons (ps_asg (pe_tup (pa_cons (pe_c G_l_lists hr (by decide) (pa_cons (pv 2) pa_nil)) (pa_cons (pe_c G_l_corners hr (by decide) (pa_cons (pv 2) pa_nil)) (pa_cons (pe_c G_l_lots_of_ends hr (by decide) (pa_cons (pv 2) pa_nil)) pa_nil)))) (pgT K (n := 3) (pgs_cons (pg_name (i := 3) nn rfl (by first | exact .inl rfl | exact .inr rfl)) (pgs_cons (pg_name (i := 4) nn rfl (by first | exact .inl rfl | exact .inr rfl)) (pgs_cons (pg_name (i := 5) nn rfl (by first | exact .inl rfl | exact .inr rfl)) pgs_nil)))))
      (pss_cons (ps_for PassesOwn.never rfl (piL K (pv 4)) (pg_name (i := 6) nn rfl (by first | exact .inl rfl | exact .inr rfl)) (pss_one (ps_if (PW.pt (pw_or (pt_cmpR op_ne (pe_callB cr_lenSet (by rfl) T.m_len bt_len (pa_cons (pe_callTy (cSet K) (by rfl) T.m_set bt_set (pa_cons (pe_lc (own := [("_law_own", 10)]) (g := gName 10) (tt := tYes) rfl nn (piT K (pv 6)) (blkOk_by (N := ns_l_right) (sc := defScope s_l_right) (by decide +kernel)) (fun _ _ _ _ _ => (pg_name (i := 10) nn rfl (by first | exact .inl rfl | exact .inr rfl))) (fun _ _ _ _ _ => pts_nil) (fun _ _ _ _ _ => (pe_dget hu (pv 5) (pv 10) (fun _ _ => rfl)))) pa_nil)) pa_nil)) pe_int (nomark _)) (pw_or1 (pt_cmpR op_ne (pe_callB (cLen K) (by rfl) T.m_len bt_len (pa_cons (pe_lock (pe_lc (own := [("_law_own", 10)]) (g := gName 10) rfl nn (pi_keys (pv 5)) (blkOk_by (N := ns_l_right) (sc := defScope s_l_right) (by decide +kernel)) (fun _ _ _ _ _ => (pg_name (i := 10) nn rfl (by first | exact .inl rfl | exact .inr rfl))) (fun _ _ _ _ _ => (pts_one (pt_cmpR op_eq (pe_dget hu (pv 5) (pv 10) (fun _ _ => rfl)) (pe_dget hu (pv 5) (pe_ix (ixT K) (pv 6) pe_int (fun _ _ => rfl)) (fun _ _ => rfl)) (nomark _)))) (fun _ _ _ _ _ => pe_int))) pa_nil)) (pe_callB (cLen K) (by rfl) T.m_len bt_len (pa_cons (pv 6) pa_nil)) (nomark _))))) (pss_one (ps_ret pe_bl)) pss_nil)))
      (pss_cons (ps_asg (pe_tup (pa_cons pe_dnewT (pa_cons (pe_c G_l_names hr (by decide) (pa_cons (pv 2) pa_nil)) pa_nil))) (pgT K (n := 2) (pgs_cons (pg_name (i := 7) nn rfl (by first | exact .inl rfl | exact .inr rfl)) (pgs_cons (pg_name (i := 8) nn rfl (by first | exact .inl rfl | exact .inr rfl)) pgs_nil))))
      (pss_cons (ps_for PassesOwn.never rfl (piEL K T.m_enumerate (pa_cons (pv 4) pa_nil)) (pgT K (n := 2) (pgs_cons (pg_name (i := 9) nn rfl (by first | exact .inl rfl | exact .inr rfl)) (pgs_cons (pg_name (i := 6) nn rfl (by first | exact .inl rfl | exact .inr rfl)) pgs_nil))) (pss_one (ps_for PassesOwn.never rfl (piT K (pv 6)) (pg_name (i := 10) nn rfl (by first | exact .inl rfl | exact .inr rfl)) (pss_one (ps_dput hu (pv 7) (pv 10) (pv 9) rfl)))))
      (pss_cons (ps_set (i := 11) nn rfl (by first | exact .inl rfl | exact .inr rfl) (pe_lst (pa_cons (pe_c G_corners hr (by decide) (pa_cons (pv 3) pa_nil)) (pa_cons (pe_c G_corners hr (by decide) (pa_cons (pv 2) pa_nil)) (pa_cons (pe_c G_corner_sizes hr (by decide) (pa_cons (pv 3) pa_nil)) pa_nil)))))
      (pss_cons (ps_if (pt_not (pt_val (pe_c G_l_same hr (by decide) (pa_cons (pv 11) (pa_cons (pe_lst (pa_cons (pe_callTy (cTup K) (by rfl) T.m_tuple bt_tuple (pa_cons (pv 4) pa_nil)) (pa_cons (pe_callTy (cTup K) (by rfl) T.m_tuple bt_tuple (pa_cons (pv 4) pa_nil)) (pa_cons (pe_callTy (cTup K) (by rfl) T.m_tuple bt_tuple (pa_cons (pe_lc (own := [("_law_row", 6)]) (g := gName 6) (tt := tYes) rfl nn (piL K (pv 4)) (blkOk_by (N := ns_l_right) (sc := defScope s_l_right) (by decide +kernel)) (fun _ _ _ _ _ => (pg_name (i := 6) nn rfl (by first | exact .inl rfl | exact .inr rfl))) (fun _ _ _ _ _ => pts_nil) (fun _ _ _ _ _ => (pe_callB (cLen K) (by rfl) T.m_len bt_len (pa_cons (pv 6) pa_nil)))) pa_nil)) pa_nil)))) pa_nil))))) (pss_one (ps_ret pe_bl)) pss_nil)
      (pss_one (ps_for PassesOwn.never rfl (pi_range1 (by rfl) T.m_range (pa_cons pe_int pa_nil)) (pg_name (i := 12) nn rfl (by first | exact .inl rfl | exact .inr rfl)) (pss_cons (ps_asg (pe_tup (pa_cons (pe_c G_l_take hr (by decide) (pa_cons (pv 0) (pa_cons (pe_callB (cLen K) (by rfl) T.m_len bt_len (pa_cons (pv 2) pa_nil)) pa_nil))) (pa_cons (pe_c G_l_take hr (by decide) (pa_cons (pv 0) (pa_cons pe_int pa_nil))) (pa_cons (pe_c G_l_take hr (by decide) (pa_cons (pv 0) (pa_cons (pe_op op_mul pe_int (pe_callB (cLen K) (by rfl) T.m_len bt_len (pa_cons (pv 2) pa_nil))) pa_nil))) (pa_cons (pe_c G_l_take hr (by decide) (pa_cons (pv 0) (pa_cons (pe_callB (cLen K) (by rfl) T.m_len bt_len (pa_cons (pv 4) pa_nil)) pa_nil))) pa_nil))))) (pgT K (n := 4) (pgs_cons (pg_name (i := 13) nn rfl (by first | exact .inl rfl | exact .inr rfl)) (pgs_cons (pg_name (i := 14) nn rfl (by first | exact .inl rfl | exact .inr rfl)) (pgs_cons (pg_name (i := 15) nn rfl (by first | exact .inl rfl | exact .inr rfl)) (pgs_cons (pg_name (i := 9) nn rfl (by first | exact .inl rfl | exact .inr rfl)) pgs_nil))))))
      (pss_cons (ps_set (i := 11) nn rfl (by first | exact .inl rfl | exact .inr rfl) (pe_lst (pa_cons (pe_c G_corner_of hr (by decide) (pa_cons (pv 3) (pa_cons (pv 13) (pa_cons (pv 14) pa_nil)))) (pa_cons (pe_c G_corners_at hr (by decide) (pa_cons (pv 2) (pa_cons (pv 13) pa_nil))) (pa_cons (pe_c G_ends_of hr (by decide) (pa_cons (pv 3) (pa_cons (pv 15) pa_nil))) (pa_cons (pe_c G_edges_round hr (by decide) (pa_cons (pv 2) (pa_cons (pv 9) pa_nil))) pa_nil))))))
      (pss_cons (ps_set (i := 16) nn rfl (by first | exact .inl rfl | exact .inr rfl) (pe_lst (pa_cons (pe_dget hu (pv 7) (pe_tup (pa_cons (pv 13) (pa_cons (pv 14) pa_nil))) (fun _ _ => rfl)) (pa_cons (pe_callTy (cTup K) (by rfl) T.m_tuple bt_tuple (pa_cons (pe_lc (own := [("_law_b", 17)]) (g := gName 17) (tt := tYes) rfl nn (pi_range1 (by rfl) T.m_range (pa_cons pe_int pa_nil)) (blkOk_by (N := ns_l_right) (sc := defScope s_l_right) (by decide +kernel)) (fun _ _ _ _ _ => (pg_name (i := 17) nn rfl (by first | exact .inl rfl | exact .inr rfl))) (fun _ _ _ _ _ => pts_nil) (fun _ _ _ _ _ => (pe_dget hu (pv 7) (pe_tup (pa_cons (pv 13) (pa_cons (pv 17) pa_nil))) (fun _ _ => rfl)))) pa_nil)) (pa_cons (pe_ix (ixL K) (pe_c G_l_ends hr (by decide) (pa_cons (pv 2) pa_nil)) (pv 15) (fun _ _ => rfl)) (pa_cons (pe_callTy (cTup K) (by rfl) T.m_tuple bt_tuple (pa_cons (pe_lc (own := [("_law_g", 18), ("_law_b", 17)]) (tt := tYes) rfl nn (piT K (pe_ix (ixL K) (pv 4) (pv 9) (fun _ _ => rfl))) (blkOk_by (N := ns_l_right) (sc := defScope s_l_right) (by decide +kernel)) (fun _ _ _ _ _ => (pgT K (n := 2) (pgs_cons (pg_name (i := 18) nn rfl (by first | exact .inl rfl | exact .inr rfl)) (pgs_cons (pg_name (i := 17) nn rfl (by first | exact .inl rfl | exact .inr rfl)) pgs_nil)))) (fun _ _ _ _ _ => pts_nil) (fun _ _ _ _ _ => (pe_dget hu (pv 8) (pe_tup (pa_cons (pv 18) (pa_cons (pe_op op_mod (pe_callTy call_int1 (by rfl) T.m_int bt_int (pa_cons (pe_op op_add (pv 17) pe_int) pa_nil)) pe_int) pa_nil))) (fun _ _ => rfl)))) pa_nil)) pa_nil))))))
      (pss_one (ps_if (pt_not (pt_val (pe_c G_l_same hr (by decide) (pa_cons (pv 11) (pa_cons (pv 16) pa_nil))))) (pss_one (ps_ret pe_bl)) pss_nil)))))))))))))))
      (pss_one (ps_ret pe_bl))), ?_⟩
    refine ⟨3, rfl, by decide, by decide, ?_⟩
    refine for_it (walk_rng (n := 3)) (fun lap σ H1 => ∃ y1 y2 y3 y4 y5 y6 y7 y8 y9 y10 y11 y12 y13 y14 y15 y16 y17 y18, σ = [some (.ref t), y1, y2, y3, y4, y5, y6, y7, y8, y9, y10, y11, y12, y13, y14, y15, y16, y17, y18] ∧ TinA H1 t (400 * lap))
      ⟨_, _, _, _, _, _, _, _, _, _, _, _, _, _, _, _, _, _, rfl, ht⟩ (fun _ _ _ _ _ => trivial) (fun lap x σ H1 H2 hlap hp hY => ?_) (fun σ H1 hp => ?_)
    rotate_left
    · obtain ⟨y1, y2, y3, y4, y5, y6, y7, y8, y9, y10, y11, y12, y13, y14, y15, y16, y17, y18, rfl, _⟩ := hp
      exact q _
    obtain ⟨y1, y2, y3, y4, y5, y6, y7, y8, y9, y10, y11, y12, y13, y14, y15, y16, y17, y18, rfl, ht1⟩ := hp
    obtain ⟨rfl, rfl⟩ := hY
    -- hide
    refine ⟨_, rfl, t, 400 * lap, rfl, ht1, by omega, fun hv S H3 f3 ht3 hhv vd h6 => ?_⟩
    have sh := vd.sh
    have few := sh.few
    have hcm := rows_len vd
    -- lists, corners, lots
    refine ⟨_, rfl, hv, skD S, rfl, hhv, (SkL.self sh).2, nt_sk S, fun sv H4 s4 hsv0 => ?_⟩
    have hsv : Is H4 sv (lstD (skD S)) := hsv0.sm (nw_sm H3 H4)
    refine ⟨_, rfl, hv, S, rfl, hhv.sm s4, vd, fun rl ws H5 s5 hrl hws => ?_⟩
    rw [← corners_same vd] at hws
    have hwl := hws.length
    rw [List.length_map] at hwl
    refine ⟨_, rfl, hv, S, rfl, (hhv.sm s4).sm s5, vd, h6, fun d H6 s6 hd => ?_⟩
    refine ⟨(show 3 ≤ sizeLine by decide), fun tt ntt => ?_⟩
    have s7 := sm_upd ntt (o := .tup [sv, .ref rl, .ref d])
    refine ⟨tt, [_, _, _], rfl, SqT.of upd_same, rfl, _, _, rfl, _, _, rfl, _, _, rfl, rfl, ?_⟩
    have hd7 := s7 _ _ hd
    have hrl7 := s7 _ _ (s6 _ _ hrl)
    have hws7 := (hws.sm s6).sm s7
    have ht7 := (((ht3.sm s4).sm s5).sm s6).sm s7
    have hhv7 := (((hhv.sm s4).sm s5).sm s6).sm s7
    have hsv7 := ((hsv.sm s5).sm s6).sm s7
    revert hd7 hrl7 hws7 ht7 hhv7 hsv7
    generalize upd H6 tt (.tup [sv, .ref rl, .ref d]) = H7
    intro hd7 hrl7 hws7 ht7 hhv7 hsv7
    -- each row is one lot
    refine ⟨_, rfl, rl, rfl, ⟨ws, SqL.of hrl7⟩, ?_⟩
    refine for_it (walk_list (K := K) (a := rl) (xs := ws)) (fun i σ H8 => ∃ y6 y7 y8 y9 y10 y11 y12 y13 y14 y15 y16 y17 y18, σ = [some (.ref t), some (.int (lap : Nat)), some hv, some sv, some (.ref rl), some (.ref d), y6, y7, y8, y9, y10, y11, y12, y13, y14, y15, y16, y17, y18] ∧ Same H7 H8)
      ⟨_, _, _, _, _, _, _, _, _, _, _, _, _, rfl, Same.refl _⟩ (fun i σ H8 hi hp => ?_) (fun i x σ H8 H9 hi hp hY => ?_) (fun σ H8 hp => ?_)
    · obtain ⟨_, _, _, _, _, _, _, _, _, _, _, _, _, _, s8⟩ := hp
      exact SqL.of (s8 _ _ hrl7)
    · obtain ⟨z6, z7, z8, z9, z10, z11, z12, z13, z14, z15, z16, z17, z18, rfl, s8⟩ := hp
      obtain ⟨rfl, hx⟩ := hY
      obtain ⟨r, er⟩ := lt_get (l := cornersM S) (i := i) (by omega)
      have hrm := List.mem_of_getElem? er
      obtain ⟨x', hx', hi'⟩ := hws7.get (i := i) (d := rowD r) (by rw [List.getElem?_map, er] <;> rfl)
      obtain rfl : x = x' := Option.some.inj (hx.symm.trans hx')
      obtain ⟨b, rs, rfl, hb, hrs⟩ := hi'.tupE
      have hrsl := hrs.length
      rw [List.length_map] at hrsl
      obtain ⟨p0, hp0, rfl⟩ := rows_orb vd hrm
      obtain ⟨hpos, hlen, _, rin⟩ := row_facts vd hrm
      have hb8 := s8 _ _ hb
      have hrs8 := hrs.sm s8
      have hd8 := s8 _ _ hd7
      -- len(set([..])) != 1
      refine ⟨_, rfl, b, rfl, ⟨rs, SqT.of hb8⟩, fun D nD => ?_⟩
      refine lc_v (walk_tup (K := K) (a := b) (xs := rs)) (((orb S p0).map fun p => ((Lab (lotsM S) p : Nat) : Int)).map V.int) (by rw [List.length_map, List.length_map, hrsl]) (by omega) nD (fun H10 s10 => SqT.of (s10 _ _ hb8)) (fun x => rfl) (fun j x H10 H11 y C hj hy s10 hY hC => ?_) (fun H10 s10 hD => ?_)
      · obtain ⟨rfl, hx⟩ := hY
        obtain ⟨p, ep⟩ := lt_get (l := orb S p0) (i := j) (by omega)
        obtain ⟨x', hx', hi'⟩ := hrs8.get (i := j) (d := prD p) (by rw [List.getElem?_map, ep] <;> rfl)
        obtain rfl : x = x' := Option.some.inj (hx.symm.trans hx')
        obtain ⟨c, rfl, hc⟩ := hi'.prE
        rw [List.getElem?_map, List.getElem?_map, ep] at hy
        obtain rfl : V.int ((Lab (lotsM S) p : Nat) : Int) = y := Option.some.inj hy
        exact ⟨_, rfl, _, rfl, d, _, rfl, lots_get (.inl (s10 _ _ hd8)) (s10 _ _ hc) (rin p (List.mem_of_getElem? ep)), hC _ (Same.refl _)⟩
      refine ⟨D, (orb S p0).map fun p => ((Lab (lotsM S) p : Nat) : Int), rfl, SqL.of hD, by rw [List.length_map]; omega, fun p1 np1 => ?_⟩
      have s11 := s10.trans (sm_upd np1 (o := .set (fun k => (fm ((orb S p0).map fun p => ((Lab (lotsM S) p : Nat) : Int))).any (· == k)) (fm ((orb S p0).map fun p => ((Lab (lotsM S) p : Nat) : Int))).length))
      have hfm : fm ((orb S p0).map fun p => ((Lab (lotsM S) p : Nat) : Int)) = [((Lab (lotsM S) p0 : Nat) : Int)] := fm_same (fun n hn => by
        obtain ⟨p, hp, rfl⟩ := List.mem_map.mp hn
        rw [lots_const vd hp0 hp]) (by
        intro z
        have := congrArg List.length z
        rw [List.length_map] at this
        exact absurd this (by show ¬ _ = 0; omega))
      refine ⟨p1, _, _, rfl, upd_same, rfl, _, rfl, iteNe (by rw [hfm] <;> rfl) ?_⟩
      revert s11
      generalize upd H10 p1 (.set (fun k => (fm ((orb S p0).map fun p => ((Lab (lotsM S) p : Nat) : Int))).any (· == k)) (fm ((orb S p0).map fun p => ((Lab (lotsM S) p : Nat) : Int))).length) = H11
      intro s11
      -- the count
      have hd11 := s11 _ _ hd8
      have hb11 := s11 _ _ hb8
      obtain ⟨q0, eq0⟩ := lt_get (l := orb S p0) (i := 0) hpos
      have hq0 := List.mem_of_getElem? eq0
      obtain ⟨x0, hx0, hi0⟩ := (hrs8.sm s11).get (i := 0) (d := prD q0) (by rw [List.getElem?_map, eq0] <;> rfl)
      obtain ⟨c0, rfl, hc0⟩ := hi0.prE
      have nbd : b ≠ d := ne_of hb11 hd11 (by intro z; cases z)
      have ncd : c0 ≠ d := ne_of hc0 hd11 (by intro z; cases z)
      refine ⟨d, _, hd11, trivial, fun od => ?_⟩
      refine ⟨_, rfl, d, od, rfl, .inr ⟨_, upd_same, fun D2 nD2 => ?_⟩⟩
      have hbL : (upd H11 d (.frz od (.dT (kd (lotK S.length (lotsM S)))))) b = some (.tup rs) := by rw [upd_ne nbd]; exact hb11
      have hcL : (upd H11 d (.frz od (.dT (kd (lotK S.length (lotsM S)))))) c0 = some (.tup [.int q0.1, .int q0.2]) := by rw [upd_ne ncd]; exact hc0
      refine lc_if (walk_keysT (d := d) (o := od) (kvs := kd (lotK S.length (lotsM S)))) ((List.range (4 * S.length)).map fun k => if (lotsM S).getD k 0 = Lab (lotsM S) p0 then some (Dt.int 1) else none) (by rw [List.length_map, List.length_range, kd_len, lotK_len]) (by rw [kd_len, lotK_len]; omega) nD2 (fun H12 s12 => s12 _ _ upd_same)
        (fun e he => ?_) (fun k x H12 H13 o C Z hk ho s12 hY hC hZ => ?_) (fun H12 zs s12 hD2 hzs => ?_)
      · obtain ⟨k, _, z⟩ := List.mem_map.mp he
        split at z
        · cases z
          trivial
        · cases z
      · obtain ⟨rfl, kk, vv, qq, ekv, rfl, hqq⟩ := hY
        rw [kd_len, lotK_len] at hk
        have ekv2 : (kd (lotK S.length (lotsM S)))[k]? = some (pk (prAt k), V.int (((lotsM S).getD k 0 : Nat) : Int)) := by
          unfold kd lotK
          rw [List.map_map, List.getElem?_map, List.getElem?_range hk] <;> rfl
        rw [ekv2] at ekv
        obtain ⟨e1, e2⟩ := Prod.mk.inj (Option.some.inj ekv)
        subst e1
        have hpk : InR S.length (prAt k) := prAt_in hk
        rw [List.getElem?_map, List.getElem?_range hk] at ho
        have eo : o = if (lotsM S).getD k 0 = Lab (lotsM S) p0 then some (Dt.int 1) else none := (Option.some.inj ho).symm
        have hdL := s12 _ _ (upd_same : (upd H11 d (.frz od (.dT (kd (lotK S.length (lotsM S)))))) d = _)
        refine ⟨rfl, _, rfl, _, rfl, d, _, rfl, lots_get (.inr ⟨od, hdL⟩) hqq hpk, ?_⟩
        refine ⟨_, rfl, _, rfl, b, rs, 0, .ref c0, rfl, rfl, SqT.of (s12 _ _ hbL), atI_nat (j := 0) hx0, d, _, rfl, lots_get (.inr ⟨od, hdL⟩) (s12 _ _ hcL) (rin q0 hq0), rfl, _, rfl, ?_⟩
        have el : Lab (lotsM S) (prAt k) = (lotsM S).getD k 0 := by
          unfold Lab
          rw [ix_prAt]
        have e0 : Lab (lotsM S) q0 = Lab (lotsM S) p0 := lots_const vd hp0 hq0
        rw [el, e0]
        refine ite2 (fun c1 => ?_) (fun c1 => ?_)
        · have e := V.int.inj (of_decide_eq_true c1)
          rw [if_pos (by omega)] at eo
          exact hC _ eo _ _ (Same.refl _) (.int 1)
        · have e : ¬ V.int (((lotsM S).getD k 0 : Nat) : Int) = V.int ((Lab (lotsM S) p0 : Nat) : Int) := of_decide_eq_false (Bool.eq_false_iff.mpr c1)
          rw [if_neg (fun z => e (by rw [z]))] at eo
          exact hZ eo _ (Same.refl _)
      have s13 := sm_unlock hd11 s12
      have ndD : D2 ≠ d := fun z => by
        rw [z, upd_same] at nD2
        cases nD2
      have hzl := hzs.length
      rw [count_fs, lots_count vd hp0] at hzl
      refine ⟨s12 _ _ upd_same, D2, zs, rfl, .inl (SqL.of (by rw [upd_ne ndD]; exact hD2)), ?_⟩
      refine ⟨_, rfl, b, rs, rfl, .inr (SqT.of (s13 _ _ hb11)), rfl, _, rfl, iteNe (by rw [hzl, hrsl]) ?_⟩
      exact ⟨_, _, _, _, _, _, _, _, _, _, _, _, _, rfl, (s8.trans s11).trans s13⟩
    obtain ⟨z6, z7, z8, z9, z10, z11, z12, z13, z14, z15, z16, z17, z18, rfl, s8⟩ := hp
    -- at, names
    intro ad nad
    have s9 := sm_upd nad (o := .dT [])
    refine ⟨_, rfl, hv, S, rfl, (hhv7.sm s8).sm s9, sh, fun nm H10 s10 hnm => ?_⟩
    refine ⟨tup2_line, fun t2 nt2 => ?_⟩
    have s11 := sm_upd nt2 (o := .tup [.ref ad, .ref nm])
    refine ⟨t2, [_, _], rfl, SqT.of upd_same, rfl, _, _, rfl, _, _, rfl, rfl, ?_⟩
    have had := s11 _ _ (s10 _ _ (upd_same : (upd H8 ad (.dT [])) ad = _))
    have hnm11 := s11 _ _ hnm
    have nan : nm ≠ ad := by
      intro z
      rw [z] at hnm
      have e := (s10 _ _ (upd_same : (upd H8 ad (.dT [])) ad = _)).symm.trans hnm
      injection e with e
      injection e with e
      have hl : (namesM S).length = 0 := by
        have := congrArg List.length e
        rw [kd_len] at this
        exact this.symm
      obtain ⟨v, ev⟩ := names_has vd (p := (0, 0)) ⟨sh.pos, by decide⟩
      rw [List.eq_nil_of_length_eq_zero hl] at ev
      cases ev
    have s811 := s8.trans ((s9.trans s10).trans s11)
    have hrl11 := s811 _ _ hrl7
    have nad7 : H7 ad = none := s8.free nad
    refine ⟨_, rfl, rl, ws, rfl, SqL.of hrl11, ?_⟩
    revert had hnm11 s811 hrl11
    generalize upd H10 t2 (.tup [.ref ad, .ref nm]) = H11
    intro had hnm11 s811 hrl11
    have nrl : rl ≠ ad := ne_of hrl11 had (by intro z; cases z)
    refine for_it (walk_enum (K := K) (a := rl) (xs := ws)) (fun i σ H12 => ∃ y6 y9 y10 y11 y12 y13 y14 y15 y16 y17 y18, σ = [some (.ref t), some (.int (lap : Nat)), some hv, some sv, some (.ref rl), some (.ref d), y6, some (.ref ad), some (.ref nm), y9, y10, y11, y12, y13, y14, y15, y16, y17, y18] ∧ Same H7 H12 ∧ H12 nm = some (.dT (kd (namesM S))) ∧
        H12 ad = some (.dT (kd (atTo (cornersM S) i))) ∧ KeysIn S.length (atTo (cornersM S) i))
      ⟨_, _, _, _, _, _, _, _, _, _, _, rfl, s811, hnm11, had, KeysIn.nil _⟩ (fun i σ H12 hi hp => ?_) (fun i x σ H12 H13 hi hp hY => ?_) (fun σ H12 hp => ?_)
    · obtain ⟨_, _, _, _, _, _, _, _, _, _, _, _, s12, _⟩ := hp
      exact SqL.of (s12 _ _ hrl7)
    · obtain ⟨x6, x9, x10, x11, x12, x13, x14, x15, x16, x17, x18, rfl, s12, hnm12, had12, hk12⟩ := hp
      obtain ⟨t3, xi, xe, rfl, nt3, rfl, e1, e2⟩ := hY
      cases e1
      obtain ⟨r, er⟩ := lt_get (l := cornersM S) (i := i) (by omega)
      obtain ⟨xe', hxe', hie⟩ := hws7.get (i := i) (d := rowD r) (by rw [List.getElem?_map, er] <;> rfl)
      obtain rfl : xe = xe' := Option.some.inj (e2.symm.trans hxe')
      obtain ⟨b, rs, rfl, hb, hrs⟩ := hie.tupE
      have hrsl := hrs.length
      rw [List.length_map] at hrsl
      have eg : (cornersM S).getD i [] = r := by rw [List.getD_eq_getElem?_getD, er] <;> rfl
      obtain ⟨_, _, _, rin⟩ := row_facts vd (List.mem_of_getElem? er)
      have s13 := sm_upd nt3 (o := .tup [.int (i : Nat), .ref b])
      refine ⟨t3, [_, _], rfl, SqT.of upd_same, rfl, _, _, rfl, _, _, rfl, rfl, ?_⟩
      refine ⟨_, rfl, b, rfl, ⟨rs, SqT.of (s13 _ _ (s12 _ _ hb))⟩, ?_⟩
      refine for_it (walk_tup (K := K) (a := b) (xs := rs)) (fun j σ H14 => ∃ y10 y11 y12 y13 y14 y15 y16 y17 y18, σ = [some (.ref t), some (.int (lap : Nat)), some hv, some sv, some (.ref rl), some (.ref d), some (.ref b), some (.ref ad), some (.ref nm), some (.int (i : Nat)), y10, y11, y12, y13, y14, y15, y16, y17, y18] ∧ Same H7 H14 ∧ H14 nm = some (.dT (kd (namesM S))) ∧
          H14 ad = some (.dT (kd (atRow (atTo (cornersM S) i) i r j))) ∧ KeysIn S.length (atRow (atTo (cornersM S) i) i r j))
        ⟨_, _, _, _, _, _, _, _, _, rfl, s12.trans s13, s13 _ _ hnm12, s13 _ _ had12, hk12⟩ (fun j σ H14 hj hp => ?_) (fun j x σ H14 H15 hj hp hY => ?_) (fun σ H14 hp => ?_)
      · obtain ⟨_, _, _, _, _, _, _, _, _, _, s14, _⟩ := hp
        exact SqT.of (s14 _ _ hb)
      · obtain ⟨w10, w11, w12, w13, w14, w15, w16, w17, w18, rfl, s14, hnm14, had14, hk14⟩ := hp
        obtain ⟨rfl, hx⟩ := hY
        obtain ⟨p, ep⟩ := lt_get (l := r) (i := j) (by omega)
        obtain ⟨x', hx', hi'⟩ := hrs.get (i := j) (d := prD p) (by rw [List.getElem?_map, ep] <;> rfl)
        obtain rfl : x = x' := Option.some.inj (hx.symm.trans hx')
        obtain ⟨c, rfl, hc⟩ := hi'.prE
        have egp : r.getD j (0, 0) = p := by rw [List.getD_eq_getElem?_getD, ep] <;> rfl
        have hkl := hk14.len
        refine ⟨_, rfl, _, rfl, _, rfl, ad, _, rfl, DPut.t (k := pk p) had14 (s14 _ _ hc) (by rw [kd_len]; exact small1000 (by omega)), ?_⟩
        rw [putK_kd]
        refine ⟨_, _, _, _, _, _, _, _, _, rfl, sm_upd2 s14 nad7, ?_, ?_, ?_⟩
        · rw [upd_ne nan]
          exact hnm14
        · rw [upd_same]
          show _ = some (HO.dT (kd (putK (atRow (atTo (cornersM S) i) i r j) (r.getD j (0, 0)) _)))
          rw [egp]
        · show KeysIn _ (putK (atRow (atTo (cornersM S) i) i r j) (r.getD j (0, 0)) _)
          rw [egp]
          exact hk14.put (rin p (List.mem_of_getElem? ep)) _
      · obtain ⟨w10, w11, w12, w13, w14, w15, w16, w17, w18, rfl, s14, hnm14, had14, hk14⟩ := hp
        have e : atTo (cornersM S) (i + 1) = atRow (atTo (cornersM S) i) i r rs.length := by
          show atRow (atTo (cornersM S) i) i ((cornersM S).getD i []) ((cornersM S).getD i []).length = _
          rw [eg, hrsl]
        exact ⟨_, _, _, _, _, _, _, _, _, _, _, rfl, s14, hnm14, by rw [e]; exact had14, by rw [e]; exact hk14⟩
    obtain ⟨x6, x9, x10, x11, x12, x13, x14, x15, x16, x17, x18, rfl, s12, hnm12, had12, hk12⟩ := hp
    rw [hwl] at had12
    have rc : RC S t hv sv rl ad nm ws H12 (400 * lap + 310) := ⟨ht7.sm s12, hhv7.sm s12, hsv7.sm s12, s12 _ _ hrl7, hws7.sm s12, had12, hnm12⟩
    -- corners(soft), corners(hide), corner_sizes(soft)
    have sks := SkL.lists sh
    have skh := SkL.self sh
    refine ⟨_, rfl, sv, _, S, rfl, rc.soft, sks, vd, fun v1 H13 s13 h13 => ?_⟩
    refine ⟨_, rfl, hv, _, S, rfl, rc.hide.sm s13, skh, vd, fun v2 H14 s14 h14 => ?_⟩
    refine ⟨_, rfl, sv, _, S, rfl, (rc.soft.sm s13).sm s14, sks, vd, fun v3 H15 s15 h15 => ?_⟩
    refine ⟨(show 3 ≤ sizeLine by decide), fun g ng => ?_⟩
    have s16 := sm_upd ng (o := .lst [v1, v2, v3])
    have hall : IsAll (upd H15 g (.lst [v1, v2, v3])) [v1, v2, v3] [skD (cornersM S), skD (cornersM S), .tup ((cornersM S).map fun r => Dt.int (r.length : Nat))] :=
      .cons (((h13.sm s14).sm s15).sm s16) (.cons ((h14.sm s15).sm s16) (.cons (h15.sm s16) .nil))
    have hg : Is (upd H15 g (.lst [v1, v2, v3])) (.ref g) (rowsD S) := .lst upd_same (l3_tin hall rfl) hall
    have rc2 := rc.sm (((s13.trans s14).trans s15).trans s16)
    revert hg rc2
    generalize upd H15 g (.lst [v1, v2, v3]) = H16
    intro hg rc2
    refine ⟨_, rfl, _, rfl, rl, ws, rfl, .inl ⟨SqL.of rc2.rows, fun p1 np1 => ?_⟩⟩
    have s17 := sm_upd np1 (o := .tup ws)
    have i1 : Is (upd H16 p1 (.tup ws)) (.ref p1) (skD (cornersM S)) := .tup upd_same (rc2.cells.sm s17)
    have rc3 := rc2.sm s17
    refine ⟨_, rfl, rl, ws, rfl, .inl ⟨SqL.of rc3.rows, fun p2 np2 => ?_⟩⟩
    have s18 := sm_upd np2 (o := .tup ws)
    have i2 : Is (upd (upd H16 p1 (.tup ws)) p2 (.tup ws)) (.ref p2) (skD (cornersM S)) := .tup upd_same (rc3.cells.sm s18)
    have rc4 := rc3.sm s18
    have i1' := i1.sm s18
    have hg4 := hg.sm (s17.trans s18)
    revert i1' i2 rc4 hg4
    generalize upd (upd H16 p1 (.tup ws)) p2 (.tup ws) = H18
    intro i2 rc4 i1' hg4
    refine ⟨_, rfl, rl, rfl, ⟨ws, SqL.of rc4.rows⟩, fun D nD => ?_⟩
    refine lc_nm (walk_list (K := K) (a := rl) (xs := ws)) ((cornersM S).map fun r => Dt.int (r.length : Nat)) (by rw [List.length_map, hwl]) (by omega) nD (fun H19 s19 => SqL.of (s19 _ _ rc4.rows)) (fun e he => ?_) (fun x => rfl) (fun i x H19 H20 e C hi he s19 hY hC => ?_) (fun H19 zs s19 hD hzs => ?_)
    · obtain ⟨r, _, rfl⟩ := List.mem_map.mp he
      trivial
    · obtain ⟨rfl, hx⟩ := hY
      obtain ⟨r, er⟩ := lt_get (l := cornersM S) (i := i) (by omega)
      obtain ⟨x', hx', hi'⟩ := rc4.cells.get (i := i) (d := rowD r) (by rw [List.getElem?_map, er] <;> rfl)
      obtain rfl : x = x' := Option.some.inj (hx.symm.trans hx')
      obtain ⟨b, rs, rfl, hb, hrs⟩ := hi'.tupE
      have hrsl := hrs.length
      rw [List.length_map] at hrsl
      rw [List.getElem?_map, er] at he
      obtain rfl : Dt.int (r.length : Nat) = e := Option.some.inj he
      refine ⟨_, rfl, b, rs, rfl, .inr (SqT.of (s19 _ _ hb)), ?_⟩
      rw [hrsl]
      exact hC _ _ (Same.refl _) (.int _)
    refine ⟨D, zs, rfl, .inl ⟨SqL.of hD, fun p3 np3 => ?_⟩⟩
    have s20 := s19.trans (sm_upd np3 (o := .tup zs))
    have i3 : Is (upd H19 p3 (.tup zs)) (.ref p3) (.tup ((cornersM S).map fun r => Dt.int (r.length : Nat))) := .tup upd_same (hzs.sm (sm_upd np3))
    refine ⟨(show 3 ≤ sizeLine by decide), fun g2 ng2 => ?_⟩
    have s21 := sm_upd ng2 (o := .lst [.ref p1, .ref p2, .ref p3])
    have hall2 : IsAll (upd (upd H19 p3 (.tup zs)) g2 (.lst [.ref p1, .ref p2, .ref p3])) [.ref p1, .ref p2, .ref p3] [skD (cornersM S), skD (cornersM S), .tup ((cornersM S).map fun r => Dt.int (r.length : Nat))] :=
      .cons ((i1'.sm s20).sm s21) (.cons ((i2.sm s20).sm s21) (.cons (i3.sm s21) .nil))
    refine ⟨.ref g, .ref g2, rowsD S, rfl, (hg4.sm s20).sm s21, .lst upd_same (l3_tin hall2 rfl) hall2, fit_rows vd, fun H22 s22 => ⟨true, rfl, iteF ?_⟩⟩
    have rc5 := rc4.sm ((s20.trans s21).trans s22)
    -- draws
    refine ⟨4, rfl, by decide, by decide, ?_⟩
    refine for_it (walk_rng (n := 4)) (fun j σ H23 => ∃ y6 y9 y10 y11 y12 y13 y14 y15 y16 y17 y18, σ = [some (.ref t), some (.int (lap : Nat)), some hv, some sv, some (.ref rl), some (.ref d), y6, some (.ref ad), some (.ref nm), y9, y10, y11, y12, y13, y14, y15, y16, y17, y18] ∧ RC S t hv sv rl ad nm ws H23 (400 * lap + 310 + 4 * j))
      ⟨_, _, _, _, _, _, _, _, _, _, _, rfl, rc5⟩ (fun _ _ _ _ _ => trivial) (fun j x σ H23 H24 hj hp hY => ?_) (fun σ H23 hp => ?_)
    rotate_left
    · obtain ⟨w6, w9, w10, w11, w12, w13, w14, w15, w16, w17, w18, rfl, rc6⟩ := hp
      exact ⟨_, _, _, _, _, _, _, _, _, _, _, _, _, _, _, _, _, _, rfl, rc6.tin.mono (by omega)⟩
    obtain ⟨w6, w9, w10, w11, w12, w13, w14, w15, w16, w17, w18, rfl, rc6⟩ := hp
    obtain ⟨rfl, rfl⟩ := hY
    obtain ⟨sa, us, rfl, hsa, hul, _⟩ := row_at rc6.hide
    have hpos := sh.pos
    have hrp := rows_pos vd
    refine ⟨_, rfl, _, rfl, sa, us, rfl, .inr (SqT.of hsa), t, (us.length : Nat), _, rfl, by omega, by omega, rc6.tin, by omega, fun f o1 hf ht24 => ?_⟩
    have rc7 := rc6.t ht24
    revert rc7
    generalize upd H24 t o1 = H25
    intro rc7
    refine ⟨_, rfl, t, 4, _, rfl, by decide, by decide, rc7.tin, by omega, fun a o2 ha ht25 => ?_⟩
    have rc8 := rc7.t ht25
    revert rc8
    generalize upd H25 t o2 = H26
    intro rc8
    obtain ⟨sa2, us2, e3, hsa2, hul2, _⟩ := row_at rc8.hide
    cases e3
    refine ⟨_, rfl, _, rfl, sa, us2, rfl, .inr (SqT.of hsa2), _, _, rfl, rfl, .inl ⟨by decide, by decide⟩, t, _, _, rfl, by omega, by omega, rc8.tin, by omega, fun e o3 he ht26 => ?_⟩
    have rc9 := rc8.t ht26
    revert rc9
    generalize upd H26 t o3 = H27
    intro rc9
    refine ⟨_, rfl, _, rfl, rl, ws, rfl, .inl (SqL.of rc9.rows), t, (ws.length : Nat), _, rfl, by omega, by omega, rc9.tin, by omega, fun k o4 hk ht27 => ?_⟩
    have rc10 := rc9.t ht27
    revert rc10
    generalize upd H27 t o4 = H28
    intro rc10
    have hf' : f < S.length := by omega
    have ha' : a < 4 := by omega
    have he' : e < 2 * S.length := by omega
    have hk' : k < (cornersM S).length := by omega
    refine ⟨(show 4 ≤ sizeLine by decide), fun t4 nt4 => ?_⟩
    have rc11 := rc10.sm (sm_upd nt4 (o := .tup [.int (f : Nat), .int (a : Nat), .int (e : Nat), .int (k : Nat)]))
    refine ⟨t4, [_, _, _, _], rfl, SqT.of upd_same, rfl, _, _, rfl, _, _, rfl, _, _, rfl, _, _, rfl, rfl, ?_⟩
    revert rc11
    generalize upd H28 t4 (.tup [.int (f : Nat), .int (a : Nat), .int (e : Nat), .int (k : Nat)]) = H29
    intro rc11
    -- got
    refine ⟨_, rfl, _, rfl, _, rfl, sv, _, S, (f, a), rfl, rc11.soft, sks, vd, ⟨hf', ha'⟩, fun H30 s30 => ?_⟩
    have rc12 := rc11.sm s30
    refine ⟨_, rfl, _, rfl, .ref sa, _, S, f, rfl, rc12.hide, skh, vd, hf', fun g2 H31 s31 h31 => ?_⟩
    have rc13 := rc12.sm s31
    refine ⟨_, rfl, _, rfl, sv, _, S, e, rfl, rc13.soft, sks, vd, he', fun g3 H32 s32 h32 => ?_⟩
    have rc14 := rc13.sm s32
    refine ⟨_, rfl, _, rfl, .ref sa, _, S, k, rfl, rc14.hide, skh, vd, hk', fun g4 H33 s33 h33 => ?_⟩
    have rc15 := rc14.sm s33
    refine ⟨(show 4 ≤ sizeLine by decide), fun g ng => ?_⟩
    have s34 := sm_upd ng (o := .lst [.int (lookN (atM (cornersM S)) (f, a) : Nat), g2, g3, g4])
    have hall3 : IsAll (upd H33 g (.lst [.int (lookN (atM (cornersM S)) (f, a) : Nat), g2, g3, g4])) [.int (lookN (atM (cornersM S)) (f, a) : Nat), g2, g3, g4] [.int (lookN (atM (cornersM S)) (f, a) : Nat), .tup ((List.range 4).map fun b => Dt.int (lookN (atM (cornersM S)) (f, b) : Nat)), prD ((endsM S).getD e (0, 0)), .tup ((roundM S ((cornersM S).getD k [])).map fun e : Nat => Dt.int e)] :=
      .cons (.int _) (.cons (((h31.sm s32).sm s33).sm s34) (.cons ((h32.sm s33).sm s34) (.cons (h33.sm s34) .nil)))
    have hgot : Is (upd H33 g (.lst [.int (lookN (atM (cornersM S)) (f, a) : Nat), g2, g3, g4])) (.ref g) (drawD S f a e k) := .lst upd_same (l3_tin hall3 rfl) hall3
    have rc16 := rc15.sm s34
    revert hgot rc16
    generalize upd H33 g (.lst [.int (lookN (atM (cornersM S)) (f, a) : Nat), g2, g3, g4]) = H34
    intro hgot rc16
    -- due
    refine ⟨_, rfl, _, rfl, _, rfl, tup2_line, fun p1 np1 => ?_⟩
    have s35 := sm_upd np1 (o := .tup [.int (f : Nat), .int (a : Nat)])
    have rc17 := rc16.sm s35
    refine ⟨ad, _, rfl, dget_n (p := (f, a)) rc17.ats upd_same (at_ints _) (at_has vd ⟨hf', ha'⟩), ?_⟩
    refine ⟨4, rfl, by decide, by decide, fun D3 nD3 => ?_⟩
    refine lc_nm (walk_rng (n := 4)) ((List.range 4).map fun b => Dt.int (lookN (atM (cornersM S)) (f, b) : Nat)) rfl (by decide) nD3 (fun _ _ => trivial) (fun d hd => ?_) (fun x => rfl) (fun i x H36 H37 dd C hi he s36 hY hC => ?_) (fun H36 zs4 s36 hD3 hzs4 => ?_)
    · obtain ⟨b, _, rfl⟩ := List.mem_map.mp hd
      trivial
    · obtain ⟨rfl, rfl⟩ := hY
      rw [List.getElem?_map, List.getElem?_range hi] at he
      obtain rfl : Dt.int (lookN (atM (cornersM S)) (f, i) : Nat) = dd := Option.some.inj he
      refine ⟨_, rfl, _, rfl, _, rfl, tup2_line, fun p2 np2 => ?_⟩
      have s37 := sm_upd np2 (o := .tup [.int (f : Nat), .int (i : Nat)])
      exact ⟨ad, _, rfl, dget_n (p := (f, i)) (s37 _ _ (s36 _ _ rc17.ats)) upd_same (at_ints _) (at_has vd ⟨hf', hi⟩), hC _ _ s37 (.int _)⟩
    refine ⟨D3, zs4, rfl, .inl ⟨SqL.of hD3, fun q2 nq2 => ?_⟩⟩
    have s38 := s36.trans (sm_upd nq2 (o := .tup zs4))
    have i2 : Is (upd H36 q2 (.tup zs4)) (.ref q2) (.tup ((List.range 4).map fun b => Dt.int (lookN (atM (cornersM S)) (f, b) : Nat))) := .tup upd_same (hzs4.sm (sm_upd nq2))
    have rc18 := rc17.sm s38
    have hgot2 := hgot.sm (s35.trans s38)
    revert i2 rc18 hgot2
    generalize upd H36 q2 (.tup zs4) = H38
    intro i2 rc18 hgot2
    refine ⟨_, rfl, .ref sa, S, rfl, rc18.hide, vd, fun el es H39 s39 hel hes => ?_⟩
    have rc19 := rc18.sm s39
    obtain ⟨pe, epe⟩ := lt_get (l := endsM S) (i := e) (by unfold endsM; rw [List.length_map, edges_len vd]; exact he')
    have ege : (endsM S).getD e (0, 0) = pe := by rw [List.getD_eq_getElem?_getD, epe] <;> rfl
    obtain ⟨x3, hx3, i3⟩ := hes.get (i := e) (d := prD pe) (by rw [List.getElem?_map, epe] <;> rfl)
    refine ⟨_, rfl, el, es, (e : Nat), x3, rfl, rfl, SqL.of hel, atI_nat hx3, ?_⟩
    obtain ⟨r, er⟩ := lt_get (l := cornersM S) (i := k) hk'
    have egr : (cornersM S).getD k [] = r := by rw [List.getD_eq_getElem?_getD, er] <;> rfl
    obtain ⟨_, r48, _, rin⟩ := row_facts vd (List.mem_of_getElem? er)
    obtain ⟨x4, hx4, hi4⟩ := rc19.cells.get (i := k) (d := rowD r) (by rw [List.getElem?_map, er] <;> rfl)
    obtain ⟨b, rs, rfl, hb, hrs⟩ := hi4.tupE
    have hrsl := hrs.length
    rw [List.length_map] at hrsl
    refine ⟨_, rfl, _, rfl, rl, ws, (k : Nat), .ref b, rfl, rfl, SqL.of rc19.rows, atI_nat hx4, b, rfl, ⟨rs, SqT.of hb⟩, fun D4 nD4 => ?_⟩
    refine lc_ds (walk_tup (K := K) (a := b) (xs := rs)) ((roundM S r).map fun e : Nat => Dt.int e) (by unfold roundM; rw [List.length_map, List.length_map, hrsl]) (by omega) nD4 (fun H40 s40 => SqT.of (s40 _ _ hb)) (fun d hd => ?_)
      (fun i x H40 H41 dd C Z hi he s40 hY hC => ?_) (fun H40 zs5 s40 hD4 hzs5 => ?_)
    · obtain ⟨b, _, rfl⟩ := List.mem_map.mp hd
      trivial
    · obtain ⟨rfl, hx⟩ := hY
      obtain ⟨p, ep⟩ := lt_get (l := r) (i := i) (by omega)
      obtain ⟨x', hx', hi'⟩ := hrs.get (i := i) (d := prD p) (by rw [List.getElem?_map, ep] <;> rfl)
      obtain rfl : x = x' := Option.some.inj (hx.symm.trans hx')
      obtain ⟨c, rfl, hc⟩ := hi'.prE
      unfold roundM at he
      rw [List.getElem?_map, List.getElem?_map, ep] at he
      obtain rfl : Dt.int (lookN (namesM S) (p.1, (p.2 + 3) % 4) : Nat) = dd := Option.some.inj he
      refine ⟨c, [_, _], rfl, SqT.of (s40 _ _ hc), rfl, _, _, rfl, _, _, rfl, rfl, rfl, tyes (iteT ?_)⟩
      refine ⟨_, rfl, _, rfl, _, rfl, _, _, rfl, rfl, .inl ⟨_, rfl, _, _, rfl, rfl, (show (0 : Int) < 4 by decide), tup2_line, fun p1 np1 => ?_⟩⟩
      have s41 := sm_upd np1 (o := .tup [.int (p.1 : Nat), .int ((((p.2 : Nat) : Int) + 3) % 4)])
      have hin := rin p (List.mem_of_getElem? ep)
      exact ⟨nm, _, rfl, dget_n (p := (p.1, (p.2 + 3) % 4)) (s41 _ _ (s40 _ _ rc19.names)) (tup_eq (plus3 _)) (names_ints _) (names_has vd ⟨hin.1, Nat.mod_lt _ (by decide)⟩), hC _ _ s41 (.int _)⟩
    refine ⟨D4, zs5, rfl, .inl ⟨SqL.of hD4, fun q4 nq4 => ?_⟩⟩
    have s42 := s40.trans (sm_upd nq4 (o := .tup zs5))
    have i4 : Is (upd H40 q4 (.tup zs5)) (.ref q4) (.tup ((roundM S r).map fun e : Nat => Dt.int e)) := .tup upd_same (hzs5.sm (sm_upd nq4))
    refine ⟨(show 4 ≤ sizeLine by decide), fun gd ngd => ?_⟩
    have s43 := sm_upd ngd (o := .lst [.int (lookN (atM (cornersM S)) (f, a) : Nat), .ref q2, x3, .ref q4])
    have hall4 : IsAll (upd (upd H40 q4 (.tup zs5)) gd (.lst [.int (lookN (atM (cornersM S)) (f, a) : Nat), .ref q2, x3, .ref q4])) [.int (lookN (atM (cornersM S)) (f, a) : Nat), .ref q2, x3, .ref q4] [.int (lookN (atM (cornersM S)) (f, a) : Nat), .tup ((List.range 4).map fun b => Dt.int (lookN (atM (cornersM S)) (f, b) : Nat)), prD ((endsM S).getD e (0, 0)), .tup ((roundM S ((cornersM S).getD k [])).map fun e : Nat => Dt.int e)] := by
      rw [ege, egr]
      exact .cons (.int _) (.cons (((i2.sm s39).sm s42).sm s43) (.cons ((i3.sm s42).sm s43) (.cons (i4.sm s43) .nil)))
    refine ⟨_, rfl, _, rfl, .ref g, .ref gd, drawD S f a e k, rfl, ((hgot2.sm s39).sm s42).sm s43, .lst upd_same (l3_tin hall4 rfl) hall4, fit_draw vd f a e hk', fun H44 s44 => ⟨true, rfl, iteF ?_⟩⟩
    have rc20 := rc19.sm ((s42.trans s43).trans s44)
    refine ⟨_, _, _, _, _, _, _, _, _, _, _, rfl, ?_⟩
    rw [show 400 * lap + 310 + 4 * (j + 1) = 400 * lap + 310 + 4 * j + 1 + 1 + 1 + 1 by omega]
    exact rc20
end
end Hp5

set_option maxHeartbeats 4000000
/-! the examples that the law writes out -/
namespace Hp5
open PySem PySem.Spec PyProof.Rows L2
/-! literals -/
def rD (d : Dt) : TE := fun _ H Q => ∀ v H', Same H H' → Is H' v d → Q v H'
def rDs (ds : List Dt) : TA := fun _ H Q => ∀ vs H', Same H H' → IsAll H' vs ds → Q vs H'
section
variable {X : Cx}
theorem d_int {i : Int} {j pos} : PE X (.Constant (.int i) j pos) (rD (.int i)) := ⟨fun pins s σ H Q I h => (pe_int (X := X)).run pins s σ H Q I (h (.int i) H (Same.refl _) (.int i))⟩
theorem d_nil : PA X [] (rDs []) := ⟨fun pos pins s σ H Q I h => (pa_nil (X := X)).run pos pins s σ H Q I (h [] H (Same.refl _) .nil)⟩
theorem d_cons {e : Expr} {es : List Expr} {d : Dt} {ds : List Dt} (ha : PE X e (rD d)) (hr : PA X es (rDs ds)) (hs : starEach (e :: es) X.env = (false, eval e X.env) :: starEach es X.env := by rfl) : PA X (e :: es) (rDs (d :: ds)) :=
  ⟨fun pos pins s σ H Q I h => (pa_cons ha hr hs).run pos pins s σ H Q I fun v H1 s1 h1 vs H2 s2 h2 => h (v :: vs) H2 (s1.trans s2) (.cons (h1.sm s2) h2)⟩
theorem d_tup {es : List Expr} {ds : List Dt} {x1 pos} (h : PA X es (rDs ds)) (hl : ds.length ≤ 1000 := by decide) : PE X (.Tuple es x1 pos) (rD (.tup ds)) :=
  ⟨fun pins s σ H Q I q => (pe_tup h).run pins s σ H Q I fun vs H1 s1 h1 => ⟨by rw [h1.length]; exact Nat.le_of_lt (small1000 hl), fun p np => q (.ref p) _ (s1.trans (sm_upd np)) (.tup upd_same (h1.sm (sm_upd np)))⟩⟩
theorem d_lst {es : List Expr} {ds : List Dt} {pos} (h : PA X es (rDs ds)) (h3 : l3 ds = false := by rfl) (hl : ds.length ≤ 1000 := by decide) : PE X (.List es pos) (rD (.lst ds)) :=
  ⟨fun pins s σ H Q I q => (pe_lst h).run pins s σ H Q I fun vs H1 s1 h1 => ⟨by rw [h1.length]; exact Nat.le_of_lt (small1000 hl), fun p np => q (.ref p) _ (s1.trans (sm_upd np)) (.lst upd_same (l3_tin h1 h3) (h1.sm (sm_upd np)))⟩⟩
end
def fitB : Nat → Dt → Bool
  | _, .int _ => true
  | 0, _ => false
  | n + 1, .tup l => decide (l.length ≤ 1000) && l.all (fitB n)
  | n + 1, .lst l => decide (l.length ≤ 1000) && l.all (fitB n)
theorem fit_of : ∀ (n : Nat) (d : Dt), fitB n d = true → Fit n d
  | n, .int i, _ => fit_int n i
  | 0, .tup l, h => by cases h
  | 0, .lst l, h => by cases h
  | n + 1, .tup l, h => by
    have h : (decide (l.length ≤ 1000) && l.all (fitB n)) = true := h
    obtain ⟨h1, h2⟩ := (Bool.and_eq_true _ _).mp h
    exact ⟨of_decide_eq_true h1, fun d hd => fit_of n d (List.all_eq_true.mp h2 d hd)⟩
  | n + 1, .lst l, h => by
    have h : (decide (l.length ≤ 1000) && l.all (fitB n)) = true := h
    obtain ⟨h1, h2⟩ := (Bool.and_eq_true _ _).mp h
    exact ⟨of_decide_eq_true h1, fun d hd => fit_of n d (List.all_eq_true.mp h2 d hd)⟩
def pillowS : Skin := [[(1, 0), (1, 3), (1, 2), (1, 1)], [(0, 0), (0, 3), (0, 2), (0, 1)]]
def twinS : Skin := [[(1, 2), (0, 3), (1, 0), (0, 1)], [(0, 2), (1, 3), (0, 0), (1, 1)]]
def oneS : Skin := [[(0, 1), (0, 0), (0, 3), (0, 2)]]
theorem vd_pillow : Valid pillowS := valid_of (by decide +kernel)
theorem vd_twin : Valid twinS := valid_of (by decide +kernel)
theorem vd_one : Valid oneS := valid_of (by decide +kernel)
def cP : List (List Pr) := [[(0, 0), (1, 1)], [(0, 1), (1, 0)], [(0, 2), (1, 3)], [(0, 3), (1, 2)]]
def cT : List (List Pr) := [[(0, 0), (0, 1), (1, 2), (1, 3)], [(0, 2), (0, 3), (1, 0), (1, 1)]]
def cO : List (List Pr) := [[(0, 0), (0, 2)], [(0, 1)], [(0, 3)]]
theorem cP_eq : cornersM pillowS = cP := by decide +kernel
theorem cT_eq : cornersM twinS = cT := by decide +kernel
theorem cO_eq : cornersM oneS = cO := by decide +kernel
def nsD (l : List Nat) : List Dt := l.map fun n => Dt.int (n : Nat)
theorem at_eq (S : Skin) (f : Nat) : ((List.range 4).map fun b => Dt.int (lookN (atM (cornersM S)) (f, b) : Nat)) = nsD ((List.range 4).map fun b => lookN (atM (cornersM S)) (f, b)) := by
  unfold nsD
  rw [List.map_map] <;> rfl
theorem at_t0 : ((List.range 4).map fun b => lookN (atM (cornersM twinS)) (0, b)) = [0, 0, 1, 1] := by decide +kernel
theorem at_t1 : ((List.range 4).map fun b => lookN (atM (cornersM twinS)) (1, b)) = [1, 1, 0, 0] := by decide +kernel
theorem at_o0 : ((List.range 4).map fun b => lookN (atM (cornersM oneS)) (0, b)) = [0, 1, 0, 2] := by decide +kernel
theorem of_t12 : lookN (atM (cornersM twinS)) (1, 2) = 0 := by decide +kernel
theorem ends_t : ((List.range 4).map fun e => (endsM twinS).getD e (0, 0)) = [(0, 0), (0, 1), (1, 1), (1, 0)] := by decide +kernel
theorem ends_o : ((List.range 2).map fun e => (endsM oneS).getD e (0, 0)) = [(0, 1), (0, 2)] := by decide +kernel
theorem round_t0 : roundM twinS ((cornersM twinS).getD 0 []) = [1, 0, 3, 0] := by decide +kernel
theorem round_t1 : roundM twinS ((cornersM twinS).getD 1 []) = [1, 2, 3, 2] := by decide +kernel
theorem round_p2 : roundM pillowS ((cornersM pillowS).getD 2 []) = [1, 2] := by decide +kernel
theorem round_o1 : roundM oneS ((cornersM oneS).getD 1 []) = [0] := by decide +kernel
/-- the EDGES' ends of the first ones -/
theorem lc_ends {J : It} {n : Nat} {G : Hp → Prop} {Y : Nat → Hp → V → Hp → Prop} (wk : Walk J n G Y) {te : TE} {vs : List Nat} {σ : L2.St} {H1 : Hp} {D : Addr} {Qd : Hp → Prop} (S : Skin) (hl : n ≤ 1000) (nD : H1 D = none)
    (hG : ∀ H, Same H1 H → G H) (hY : ∀ i H x H', i < n → Same H1 H → Y i H x H' → H' = H ∧ x = .int (i : Nat)) {k : Nat} (hw : ∀ x, wipe ((wipe σ vs).set k (some x)) vs = wipe σ vs)
    (hs : ∀ (i : Nat) (H : Hp) (C : V → Hp → Prop), i < n → Same H1 H → (∀ y H4, Same H H4 → Is H4 y (prD ((endsM S).getD i (0, 0))) → C y H4) → te ((wipe σ vs).set k (some (.int (i : Nat)))) H C)
    (hd : ∀ H ws, Same H1 H → H D = some (.lst ws) → IsAll H ws (((List.range n).map fun e => (endsM S).getD e (0, 0)).map prD) → Qd H) :
    ∃ W : Nat → Nat → Hp → Prop, (∃ m, W 0 m (upd H1 D (.lst []))) ∧ ∀ i m H, W i m H →
      (J.stop i H ∧ Qd H) ∨ (J.go i H ∧ ∃ Nx : Hp → Prop, (∀ H', Nx H' → ∃ m', m' < m ∧ W (i + 1) m' H') ∧ ∀ x H', J.yld i H x H' → gName k x (wipe σ vs) H' fun σ2 H2 => wipe σ2 vs = wipe σ vs ∧ tYes σ2 H2 fun b H3 =>
        if b = true then te σ2 H3 fun y H4 => ∃ acc, H4 D = some (.lst acc) ∧ acc.length < sizeLine ∧ Nx (upd H4 D (.lst (acc ++ [y]))) else Nx H3) := by
  refine lc_nm wk (((List.range n).map fun e => (endsM S).getD e (0, 0)).map prD) (by rw [List.length_map, List.length_map, List.length_range]) hl nD hG (fun d hd => tuAll_iff.mp (tu_prs _) d hd) hw (fun i x H H' dd C hi he s hy hC => ?_) hd
  obtain ⟨rfl, rfl⟩ := hY i H x H' hi s hy
  rw [List.getElem?_map, List.getElem?_map, List.getElem?_range hi] at he
  obtain rfl : prD ((endsM S).getD i (0, 0)) = dd := Option.some.inj he
  exact hs i _ C hi s hC
section
variable {P : Program} {w : World} {K : PySem.W.Frag} {mg : Str → Option Value} {base : Heap}
def spHand : Sp := fun vs H Q _ => vs = [] ∧ ∀ H', Same H H' → Q (.bl true) H'
abbrev ns_l_hand_right : List Str := ["_law_pillow", "_law_twin", "_law_one", "_law_got", "_law_due", "_law_wide_so", "_law_own"]
theorem sc_l_hand_right : FnScope ns_l_hand_right [] (defScope s_l_hand_right) := ⟨rfl, rfl, rfl, by decide +kernel, rfl, by decide +kernel, by decide +kernel⟩
theorem ok_l_hand_right (T : Tx K mg) : OkD P w K mg base 8 "_law_hand_right" [] spHand := by
  have G_l_corners : OkD P w K mg base 1 "_law_corners" ["_law_hide"] spLCorners := ok_l_corners T
  have G_l_ends : OkD P w K mg base 2 "_law_ends" ["_law_hide"] spEnds := ok_l_ends T
  have G_l_same : OkD P w K mg base 5 "_law_same" ["_law_got", "_law_due"] (spSame 4) := ok_l_same T 4
  have G_l_square : OkD P w K mg base 1 "_law_square" ["_law_wide_so", "_law_high_so"] spSq := ok_l_square T
  have G_corners : OkD P w K mg base 7 "corners" ["skin"] spCorners := ok_corners T
  have G_corner_sizes : OkD P w K mg base 7 "corner_sizes" ["skin"] spSizes := ok_corner_sizes T
  have G_corner_of : OkD P w K mg base 7 "corner_of" ["skin", "field", "side"] spCof := ok_corner_of T
  have G_corners_at : OkD P w K mg base 7 "corners_at" ["skin", "field"] spCat := ok_corners_at T
  have G_ends_of : OkD P w K mg base 7 "ends_of" ["skin", "edge"] spEof := ok_ends_of T
  have G_edges_round : OkD P w K mg base 7 "edges_round" ["skin", "corner"] spRound := ok_edges_round T
  refine T.d_l_hand_right.ok sc_l_hand_right (fun vs H Q E h => ?_) (fun cdv A outer s H vs Q E hr h => ?_)
  · obtain ⟨rfl, _⟩ := h
    rfl
  · obtain ⟨rfl, q⟩ := h
    have nn := sc_l_hand_right.nd
    -- slots: 0 _law_pillow, 1 _law_twin, 2 _law_one, 3 _law_got, 4 _law_due, 5 _law_wide_so, 6 _law_own; calls: _law_corners, _law_ends, _law_same, _law_square, corner_of, corner_sizes, corners, corners_at, edges_round, ends_of
    refine ⟨_, (pss_cons (ps_asg (d_tup (d_cons (d_tup (d_cons (d_tup (d_cons (d_tup (d_cons d_int (d_cons d_int d_nil))) (d_cons (d_tup (d_cons d_int (d_cons d_int d_nil))) (d_cons (d_tup (d_cons d_int (d_cons d_int d_nil))) (d_cons (d_tup (d_cons d_int (d_cons d_int d_nil))) d_nil))))) (d_cons (d_tup (d_cons (d_tup (d_cons d_int (d_cons d_int d_nil))) (d_cons (d_tup (d_cons d_int (d_cons d_int d_nil))) (d_cons (d_tup (d_cons d_int (d_cons d_int d_nil))) (d_cons (d_tup (d_cons d_int (d_cons d_int d_nil))) d_nil))))) d_nil))) (d_cons (d_tup (d_cons (d_tup (d_cons (d_tup (d_cons d_int (d_cons d_int d_nil))) (d_cons (d_tup (d_cons d_int (d_cons d_int d_nil))) (d_cons (d_tup (d_cons d_int (d_cons d_int d_nil))) (d_cons (d_tup (d_cons d_int (d_cons d_int d_nil))) d_nil))))) (d_cons (d_tup (d_cons (d_tup (d_cons d_int (d_cons d_int d_nil))) (d_cons (d_tup (d_cons d_int (d_cons d_int d_nil))) (d_cons (d_tup (d_cons d_int (d_cons d_int d_nil))) (d_cons (d_tup (d_cons d_int (d_cons d_int d_nil))) d_nil))))) d_nil))) d_nil))) (pgT K (n := 2) (pgs_cons (pg_name (i := 0) nn rfl (by first | exact .inl rfl | exact .inr rfl)) (pgs_cons (pg_name (i := 1) nn rfl (by first | exact .inl rfl | exact .inr rfl)) pgs_nil))))
      (pss_cons (ps_set (i := 2) nn rfl (by first | exact .inl rfl | exact .inr rfl) (d_tup (d_cons (d_tup (d_cons (d_tup (d_cons d_int (d_cons d_int d_nil))) (d_cons (d_tup (d_cons d_int (d_cons d_int d_nil))) (d_cons (d_tup (d_cons d_int (d_cons d_int d_nil))) (d_cons (d_tup (d_cons d_int (d_cons d_int d_nil))) d_nil))))) d_nil)))
      (pss_cons (ps_set (i := 3) nn rfl (by first | exact .inl rfl | exact .inr rfl) (pe_lst (pa_cons (pe_c G_corners hr (by decide) (pa_cons (pv 0) pa_nil)) (pa_cons (pe_c G_corners hr (by decide) (pa_cons (pv 1) pa_nil)) (pa_cons (pe_c G_corners hr (by decide) (pa_cons (pv 2) pa_nil)) (pa_cons (pe_c G_corner_sizes hr (by decide) (pa_cons (pv 0) pa_nil)) (pa_cons (pe_c G_corner_sizes hr (by decide) (pa_cons (pv 2) pa_nil)) (pa_cons (pe_c G_corners_at hr (by decide) (pa_cons (pv 1) (pa_cons pe_int pa_nil))) pa_nil))))))))
      (pss_cons (ps_set (i := 3) nn rfl (by first | exact .inl rfl | exact .inr rfl) (pe_op op_cat (pv 3) (pe_lst (pa_cons (pe_c G_corners_at hr (by decide) (pa_cons (pv 1) (pa_cons pe_int pa_nil))) (pa_cons (pe_c G_corner_of hr (by decide) (pa_cons (pv 1) (pa_cons pe_int (pa_cons pe_int pa_nil)))) (pa_cons (pe_lc (own := [("_law_own", 6)]) (g := gName 6) (tt := tYes) rfl nn (pi_range1 (by rfl) T.m_range (pa_cons pe_int pa_nil)) (blkOk_by (N := ns_l_hand_right) (sc := defScope s_l_hand_right) (by decide +kernel)) (fun _ _ _ _ _ => (pg_name (i := 6) nn rfl (by first | exact .inl rfl | exact .inr rfl))) (fun _ _ _ _ _ => pts_nil) (fun _ _ _ _ _ => (pe_c G_ends_of hr (by decide) (pa_cons (pv 1) (pa_cons (pv 6) pa_nil))))) pa_nil))))))
      (pss_cons (ps_set (i := 4) nn rfl (by first | exact .inl rfl | exact .inr rfl) (d_lst (d_cons (d_tup (d_cons (d_tup (d_cons (d_tup (d_cons d_int (d_cons d_int d_nil))) (d_cons (d_tup (d_cons d_int (d_cons d_int d_nil))) d_nil))) (d_cons (d_tup (d_cons (d_tup (d_cons d_int (d_cons d_int d_nil))) (d_cons (d_tup (d_cons d_int (d_cons d_int d_nil))) d_nil))) (d_cons (d_tup (d_cons (d_tup (d_cons d_int (d_cons d_int d_nil))) (d_cons (d_tup (d_cons d_int (d_cons d_int d_nil))) d_nil))) (d_cons (d_tup (d_cons (d_tup (d_cons d_int (d_cons d_int d_nil))) (d_cons (d_tup (d_cons d_int (d_cons d_int d_nil))) d_nil))) d_nil))))) (d_cons (d_tup (d_cons (d_tup (d_cons (d_tup (d_cons d_int (d_cons d_int d_nil))) (d_cons (d_tup (d_cons d_int (d_cons d_int d_nil))) (d_cons (d_tup (d_cons d_int (d_cons d_int d_nil))) (d_cons (d_tup (d_cons d_int (d_cons d_int d_nil))) d_nil))))) (d_cons (d_tup (d_cons (d_tup (d_cons d_int (d_cons d_int d_nil))) (d_cons (d_tup (d_cons d_int (d_cons d_int d_nil))) (d_cons (d_tup (d_cons d_int (d_cons d_int d_nil))) (d_cons (d_tup (d_cons d_int (d_cons d_int d_nil))) d_nil))))) d_nil))) (d_cons (d_tup (d_cons (d_tup (d_cons (d_tup (d_cons d_int (d_cons d_int d_nil))) (d_cons (d_tup (d_cons d_int (d_cons d_int d_nil))) d_nil))) (d_cons (d_tup (d_cons (d_tup (d_cons d_int (d_cons d_int d_nil))) d_nil)) (d_cons (d_tup (d_cons (d_tup (d_cons d_int (d_cons d_int d_nil))) d_nil)) d_nil)))) d_nil)))))
      (pss_cons (ps_set (i := 4) nn rfl (by first | exact .inl rfl | exact .inr rfl) (pe_op op_cat (pv 4) (d_lst (d_cons (d_tup (d_cons d_int (d_cons d_int (d_cons d_int (d_cons d_int d_nil))))) (d_cons (d_tup (d_cons d_int (d_cons d_int (d_cons d_int d_nil)))) (d_cons (d_tup (d_cons d_int (d_cons d_int (d_cons d_int (d_cons d_int d_nil))))) (d_cons (d_tup (d_cons d_int (d_cons d_int (d_cons d_int (d_cons d_int d_nil))))) (d_cons d_int (d_cons (d_lst (d_cons (d_tup (d_cons d_int (d_cons d_int d_nil))) (d_cons (d_tup (d_cons d_int (d_cons d_int d_nil))) (d_cons (d_tup (d_cons d_int (d_cons d_int d_nil))) (d_cons (d_tup (d_cons d_int (d_cons d_int d_nil))) d_nil))))) d_nil)))))))))
      (pss_cons (ps_set (i := 5) nn rfl (by first | exact .inl rfl | exact .inr rfl) (pe_c G_l_square hr (by decide) (pa_cons pe_int (pa_cons pe_int pa_nil))))
      (pss_cons (ps_if (pt_not (pt_val (pe_c G_l_same hr (by decide) (pa_cons (pe_lst (pa_cons (pe_c G_corners hr (by decide) (pa_cons (pv 5) pa_nil)) (pa_cons (pe_c G_ends_of hr (by decide) (pa_cons (pv 5) (pa_cons pe_int pa_nil))) pa_nil))) (pa_cons (pe_lst (pa_cons (pe_callTy (cTup K) (by rfl) T.m_tuple bt_tuple (pa_cons (pe_c G_l_corners hr (by decide) (pa_cons (pv 5) pa_nil)) pa_nil)) (pa_cons (pe_ix (ixL K) (pe_c G_l_ends hr (by decide) (pa_cons (pv 5) pa_nil)) pe_int (fun _ _ => rfl)) pa_nil))) pa_nil))))) (pss_one (ps_ret pe_bl)) pss_nil)
      (pss_cons (ps_set (i := 3) nn rfl (by first | exact .inl rfl | exact .inr rfl) (pe_op op_cat (pv 3) (pe_lst (pa_cons (pe_c G_edges_round hr (by decide) (pa_cons (pv 1) (pa_cons pe_int pa_nil))) (pa_cons (pe_c G_edges_round hr (by decide) (pa_cons (pv 1) (pa_cons pe_int pa_nil))) (pa_cons (pe_c G_edges_round hr (by decide) (pa_cons (pv 0) (pa_cons pe_int pa_nil))) (pa_cons (pe_c G_edges_round hr (by decide) (pa_cons (pv 2) (pa_cons pe_int pa_nil))) (pa_cons (pe_lc (own := [("_law_own", 6)]) (g := gName 6) (tt := tYes) rfl nn (piT K (pe_tup (pa_cons pe_int (pa_cons pe_int pa_nil)))) (blkOk_by (N := ns_l_hand_right) (sc := defScope s_l_hand_right) (by decide +kernel)) (fun _ _ _ _ _ => (pg_name (i := 6) nn rfl (by first | exact .inl rfl | exact .inr rfl))) (fun _ _ _ _ _ => pts_nil) (fun _ _ _ _ _ => (pe_c G_ends_of hr (by decide) (pa_cons (pv 2) (pa_cons (pv 6) pa_nil))))) (pa_cons (pe_c G_corners_at hr (by decide) (pa_cons (pv 2) (pa_cons pe_int pa_nil))) pa_nil)))))))))
      (pss_one (ps_ret (pe_c G_l_same hr (by decide) (pa_cons (pv 3) (pa_cons (pe_op op_cat (pv 4) (d_lst (d_cons (d_tup (d_cons d_int (d_cons d_int (d_cons d_int (d_cons d_int d_nil))))) (d_cons (d_tup (d_cons d_int (d_cons d_int (d_cons d_int (d_cons d_int d_nil))))) (d_cons (d_tup (d_cons d_int (d_cons d_int d_nil))) (d_cons (d_tup (d_cons d_int d_nil)) (d_cons (d_lst (d_cons (d_tup (d_cons d_int (d_cons d_int d_nil))) (d_cons (d_tup (d_cons d_int (d_cons d_int d_nil))) d_nil))) (d_cons (d_tup (d_cons d_int (d_cons d_int (d_cons d_int (d_cons d_int d_nil))))) d_nil)))))))) pa_nil)))))))))))))), ?_⟩
    have kp := SkL.self vd_pillow.sh
    have kt := SkL.self vd_twin.sh
    have ko := SkL.self vd_one.sh
    refine fun v H3 s3 hv => ?_
    obtain ⟨ta, tvs, rfl, hta, htv⟩ := hv.tupE
    cases htv with
    | cons h0 htv =>
    cases htv with
    | cons h1 htv =>
    cases htv
    refine ⟨ta, [_, _], rfl, SqT.of hta, rfl, _, _, rfl, _, _, rfl, rfl, ?_⟩
    refine fun v2 H4 s4 h2 => ?_
    rename_i v0 v1
    have p0 : Is H4 v0 (skD pillowS) := h0.sm s4
    have p1 : Is H4 v1 (skD twinS) := h1.sm s4
    have p2 : Is H4 v2 (skD oneS) := h2
    have sA := s3.trans s4
    -- got
    refine ⟨_, rfl, v0, _, pillowS, rfl, p0, kp, vd_pillow, fun g1 H5 s5 i1 => ?_⟩
    refine ⟨_, rfl, v1, _, twinS, rfl, p1.sm s5, kt, vd_twin, fun g2 H6 s6 i2 => ?_⟩
    have s56 := s5.trans s6
    refine ⟨_, rfl, v2, _, oneS, rfl, p2.sm s56, ko, vd_one, fun g3 H7 s7 i3 => ?_⟩
    have s57 := s56.trans s7
    refine ⟨_, rfl, v0, _, pillowS, rfl, p0.sm s57, kp, vd_pillow, fun g4 H8 s8 i4 => ?_⟩
    have s58 := s57.trans s8
    refine ⟨_, rfl, v2, _, oneS, rfl, p2.sm s58, ko, vd_one, fun g5 H9 s9 i5 => ?_⟩
    have s59 := s58.trans s9
    refine ⟨_, rfl, v1, _, twinS, 0, rfl, p1.sm s59, kt, vd_twin, by decide, fun g6 H10 s10 i6 => ?_⟩
    refine ⟨(show 6 ≤ sizeLine by decide), fun g ng => ?_⟩
    have s11 := sm_upd ng (o := .lst [g1, g2, g3, g4, g5, g6])
    rw [cP_eq] at i1 i4
    rw [cT_eq] at i2
    rw [cO_eq] at i3 i5
    rw [at_eq, at_t0] at i6
    have a1 : IsAll (upd H10 g (.lst [g1, g2, g3, g4, g5, g6])) [g1, g2, g3, g4, g5, g6] [skD cP, skD cT, skD cO, .tup (nsD [2, 2, 2, 2]), .tup (nsD [2, 1, 1]), .tup (nsD [0, 0, 1, 1])] :=
      .cons ((((((i1.sm s6).sm s7).sm s8).sm s9).sm s10).sm s11) (.cons (((((i2.sm s7).sm s8).sm s9).sm s10).sm s11) (.cons ((((i3.sm s8).sm s9).sm s10).sm s11) (.cons (((i4.sm s9).sm s10).sm s11) (.cons ((i5.sm s10).sm s11) (.cons (i6.sm s11) .nil)))))
    have sB := (s59.trans s10).trans s11
    have hg1 : (upd H10 g (.lst [g1, g2, g3, g4, g5, g6])) g = some (.lst [g1, g2, g3, g4, g5, g6]) := upd_same
    have sAB := sA.trans sB
    have p0b := p0.sm sB
    have p1b := p1.sm sB
    have p2b := p2.sm sB
    revert a1 hg1 sAB p0b p1b p2b
    generalize upd H10 g (.lst [g1, g2, g3, g4, g5, g6]) = H11
    generalize [g1, g2, g3, g4, g5, g6] = gl1
    intro a1 hg1 sAB p0b p1b p2b
    -- got + [..]
    refine ⟨_, rfl, ?_⟩
    refine ⟨_, rfl, v1, _, twinS, 1, rfl, p1b, kt, vd_twin, by decide, fun g7 H12 s12 i7 => ?_⟩
    refine ⟨_, rfl, v1, _, twinS, (1, 2), rfl, p1b.sm s12, kt, vd_twin, ⟨by decide, by decide⟩, fun H13 s13 => ?_⟩
    rw [of_t12]
    have s1213 := s12.trans s13
    refine ⟨4, rfl, by decide, by decide, fun D nD => ?_⟩
    refine lc_ends (walk_rng (n := 4)) twinS (by decide) nD (fun _ _ => trivial) (fun i H x H' _ _ hy => hy) (fun x => rfl) (fun i H C hi s hC => ?_) (fun H14 zs s14 hD hzs => ?_)
    · exact ⟨_, rfl, _, rfl, v1, _, twinS, i, rfl, (p1b.sm s1213).sm s, kt, vd_twin, Nat.lt_of_lt_of_le hi (by decide), hC⟩
    refine ⟨(show 3 ≤ sizeLine by decide), fun p np => ?_⟩
    have s15 := sm_upd np (o := .lst [g7, .int ((0 : Nat) : Int), .ref D])
    rw [at_eq, at_t1] at i7
    rw [ends_t] at hzs
    have a2 : IsAll (upd H14 p (.lst [g7, .int ((0 : Nat) : Int), .ref D])) [g7, .int ((0 : Nat) : Int), .ref D] [.tup (nsD [1, 1, 0, 0]), .int ((0 : Nat) : Int), .lst ([((0, 0) : Pr), (0, 1), (1, 1), (1, 0)].map prD)] :=
      .cons (((i7.sm s13).sm s14).sm s15) (.cons (.int _) (.cons (.lst (s15 _ _ hD) (l3_tin hzs rfl) (hzs.sm s15)) .nil))
    have sC := (s1213.trans s14).trans s15
    have hlen1 := a1.length
    refine ⟨g, p, gl1, _, rfl, rfl, sC _ _ hg1, upd_same, by rw [hlen1]; show 6 + 3 ≤ sizeLine; decide, fun gg ngg => ?_⟩
    have s16 := sm_upd ngg (o := .lst (gl1 ++ [g7, .int ((0 : Nat) : Int), .ref D]))
    have sD := sC.trans s16
    have b2 := (a1.sm sD).append (a2.sm s16)
    have hg2 : (upd (upd H14 p (.lst [g7, .int ((0 : Nat) : Int), .ref D])) gg (.lst (gl1 ++ [g7, .int ((0 : Nat) : Int), .ref D]))) gg = some (.lst (gl1 ++ [g7, .int ((0 : Nat) : Int), .ref D])) := upd_same
    have sE := sAB.trans sD
    have p0c := p0b.sm sD
    have p1c := p1b.sm sD
    have p2c := p2b.sm sD
    revert b2 hg2 sE p0c p1c p2c
    generalize upd (upd H14 p (.lst [g7, .int ((0 : Nat) : Int), .ref D])) gg (.lst (gl1 ++ [g7, .int ((0 : Nat) : Int), .ref D])) = H16
    generalize gl1 ++ [g7, .int ((0 : Nat) : Int), .ref D] = gl2
    intro b2 hg2 sE p0c p1c p2c
    -- due
    refine fun dv H17 s17 hdv => ?_
    refine ⟨_, rfl, ?_⟩
    refine fun ev H18 s18 hev => ?_
    have hdv2 := hdv.sm s18
    obtain ⟨da, dvs, rfl, hda, _, hdl⟩ := hdv2.lstE
    obtain ⟨ea, evs, rfl, hea, _, hel⟩ := hev.lstE
    have l1 := hdl.length
    have l2 := hel.length
    refine ⟨da, ea, dvs, evs, rfl, rfl, hda, hea, by rw [l1, l2]; show 3 + 6 ≤ sizeLine; decide, fun df ndf => ?_⟩
    have s19 := sm_upd ndf (o := .lst (dvs ++ evs))
    have c2 := (hdl.sm s19).append (hel.sm s19)
    have hdf : (upd H18 df (.lst (dvs ++ evs))) df = some (.lst (dvs ++ evs)) := upd_same
    have sF := (s17.trans s18).trans s19
    have b3 := b2.sm sF
    have hg3 := sF _ _ hg2
    have sG := sE.trans sF
    have p0d := p0c.sm sF
    have p1d := p1c.sm sF
    have p2d := p2c.sm sF
    revert c2 hdf b3 hg3 sG p0d p1d p2d
    generalize upd H18 df (.lst (dvs ++ evs)) = H19
    generalize dvs ++ evs = dl
    intro c2 hdf b3 hg3 sG p0d p1d p2d
    -- wide
    refine ⟨6, 2, rfl, by decide, by decide, by decide, by decide, by decide, fun wv H20 s20 hw => ?_⟩
    have kw := SkL.self sq62.sh
    refine ⟨_, rfl, wv, _, squareM 6 2, rfl, hw, kw, sq62, fun c1 H21 s21 k1 => ?_⟩
    refine ⟨_, rfl, wv, _, squareM 6 2, 23, rfl, hw.sm s21, kw, sq62, by decide, fun c3 H22 s22 k3 => ?_⟩
    refine ⟨(show 2 ≤ sizeLine by decide), fun l1a nl1 => ?_⟩
    have s23 := sm_upd nl1 (o := .lst [c1, c3])
    have s2123 := (s21.trans s22).trans s23
    have d1 : IsAll (upd H22 l1a (.lst [c1, c3])) [c1, c3] [skD (cornersM (squareM 6 2)), prD ((endsM (squareM 6 2)).getD 23 (0, 0))] := .cons ((k1.sm s22).sm s23) (.cons (k3.sm s23) .nil)
    have i1a : Is (upd H22 l1a (.lst [c1, c3])) (.ref l1a) (.lst [skD (cornersM (squareM 6 2)), prD ((endsM (squareM 6 2)).getD 23 (0, 0))]) := .lst upd_same (l3_tin d1 rfl) d1
    refine ⟨_, rfl, wv, squareM 6 2, rfl, hw.sm s2123, sq62, fun ca cws H24 s24 hca hcws => ?_⟩
    rw [← corners_same sq62] at hcws
    refine ⟨ca, cws, rfl, .inl ⟨SqL.of hca, fun r nr => ?_⟩⟩
    have s25 := sm_upd nr (o := .tup cws)
    have j1 : Is (upd H24 r (.tup cws)) (.ref r) (skD (cornersM (squareM 6 2))) := .tup upd_same (hcws.sm s25)
    have s2325 := s2123.trans (s24.trans s25)
    refine ⟨_, rfl, wv, squareM 6 2, rfl, hw.sm s2325, sq62, fun ea2 ews H26 s26 hea2 hews => ?_⟩
    obtain ⟨pe, epe⟩ := lt_get (l := endsM (squareM 6 2)) (i := 23) (by unfold endsM; rw [List.length_map, edges_len sq62, square_len]; decide)
    have ege : (endsM (squareM 6 2)).getD 23 (0, 0) = pe := by rw [List.getD_eq_getElem?_getD, epe] <;> rfl
    obtain ⟨x3, hx3, j3⟩ := hews.get (i := 23) (d := prD pe) (by rw [List.getElem?_map, epe] <;> rfl)
    refine ⟨ea2, ews, 23, x3, rfl, rfl, SqL.of hea2, atI_nat (j := 23) hx3, ?_⟩
    refine ⟨(show 2 ≤ sizeLine by decide), fun l2a nl2 => ?_⟩
    have s27 := sm_upd nl2 (o := .lst [.ref r, x3])
    have d2 : IsAll (upd H26 l2a (.lst [.ref r, x3])) [.ref r, x3] [skD (cornersM (squareM 6 2)), prD ((endsM (squareM 6 2)).getD 23 (0, 0))] := by
      rw [ege]
      exact .cons ((j1.sm s26).sm s27) (.cons (j3.sm s27) .nil)
    refine ⟨.ref l1a, .ref l2a, _, rfl, ((i1a.sm (s24.trans s25)).sm s26).sm s27, .lst upd_same (l3_tin d2 rfl) d2, ?_, fun H28 s28 => ⟨true, rfl, iteF ?_⟩⟩
    · have few := sq62.sh.few
      have hl := rows_len sq62
      refine ⟨by show 2 ≤ 1000; decide, fun d hd => ?_⟩
      rcases List.mem_cons.mp hd with rfl | hd
      · exact fit_sk 0 (by omega) fun r hr => by have := (row_facts sq62 hr).2.1; omega
      rcases List.mem_cons.mp hd with rfl | hd
      · exact fit_pr 2 _
      · exact absurd hd List.not_mem_nil
    have sH := (s20.trans s2325).trans ((s26.trans s27).trans s28)
    have c4 := c2.sm sH
    have hdf4 := sH _ _ hdf
    have b4 := b3.sm sH
    have hg4 := sH _ _ hg3
    have sI := sG.trans sH
    have p0e := p0d.sm sH
    have p1e := p1d.sm sH
    have p2e := p2d.sm sH
    -- got + [..]
    refine ⟨_, rfl, ?_⟩
    refine ⟨_, rfl, v1, _, twinS, 0, rfl, p1e, kt, vd_twin, (by rw [cT_eq]; decide), fun r1 H29 s29 m1 => ?_⟩
    refine ⟨_, rfl, v1, _, twinS, 1, rfl, p1e.sm s29, kt, vd_twin, (by rw [cT_eq]; decide), fun r2 H30 s30 m2 => ?_⟩
    have s2930 := s29.trans s30
    refine ⟨_, rfl, v0, _, pillowS, 2, rfl, p0e.sm s2930, kp, vd_pillow, (by rw [cP_eq]; decide), fun r3 H31 s31 m3 => ?_⟩
    have s2931 := s2930.trans s31
    refine ⟨_, rfl, v2, _, oneS, 1, rfl, p2e.sm s2931, ko, vd_one, (by rw [cO_eq]; decide), fun r4 H32 s32 m4 => ?_⟩
    have s2932 := s2931.trans s32
    refine ⟨tup2_line, fun tp ntp => ⟨tp, rfl, ⟨_, SqT.of upd_same⟩, fun D5 nD5 => ?_⟩⟩
    have s33 := sm_upd ntp (o := .tup [.int 0, .int 1])
    have s2933 := s2932.trans s33
    refine lc_ends (walk_tup (K := K) (a := tp) (xs := [.int 0, .int 1])) oneS (show 2 ≤ 1000 by decide) nD5 (fun H s => SqT.of (s _ _ upd_same)) (fun i H x H' hi _ hy => ?_) (fun x => rfl) (fun i H C hi s hC => ?_) (fun H34 zs5 s34 hD5 hzs5 => ?_)
    · obtain ⟨rfl, hx⟩ := hy
      have hi2 : i < 2 := hi
      obtain rfl | rfl : i = 0 ∨ i = 1 := by omega
      · exact ⟨rfl, (Option.some.inj hx).symm⟩
      · exact ⟨rfl, (Option.some.inj hx).symm⟩
    · exact ⟨_, rfl, _, rfl, v2, _, oneS, i, rfl, (p2e.sm s2933).sm s, ko, vd_one, Nat.lt_of_lt_of_le (show i < 2 from hi) (by decide), hC⟩
    have s2934 := s2933.trans s34
    refine ⟨_, rfl, v2, _, oneS, 0, rfl, p2e.sm s2934, ko, vd_one, by decide, fun r6 H35 s35 m6 => ?_⟩
    refine ⟨(show 6 ≤ sizeLine by decide), fun pg npg => ?_⟩
    have s36 := sm_upd npg (o := .lst [r1, r2, r3, r4, .ref D5, r6])
    rw [round_t0] at m1
    rw [round_t1] at m2
    rw [round_p2] at m3
    rw [round_o1] at m4
    rw [at_eq, at_o0] at m6
    have hzs6 : IsAll H34 zs5 ([((0, 1) : Pr), (0, 2)].map prD) := by
      rw [← ends_o]
      exact hzs5
    have s3336 := (s33.trans s34).trans (s35.trans s36)
    have a5 : IsAll (upd H35 pg (.lst [r1, r2, r3, r4, .ref D5, r6])) [r1, r2, r3, r4, .ref D5, r6] [.tup (nsD [1, 0, 3, 0]), .tup (nsD [1, 2, 3, 2]), .tup (nsD [1, 2]), .tup (nsD [0]), .lst ([((0, 1) : Pr), (0, 2)].map prD), .tup (nsD [0, 1, 0, 2])] :=
      .cons ((((m1.sm s30).sm s31).sm s32).sm s3336) (.cons (((m2.sm s31).sm s32).sm s3336) (.cons ((m3.sm s32).sm s3336) (.cons (m4.sm s3336) (.cons (.lst (s36 _ _ (s35 _ _ hD5)) (l3_tin hzs6 rfl) ((hzs6.sm s35).sm s36)) (.cons (m6.sm s36) .nil)))))
    have sJ := s2934.trans (s35.trans s36)
    have hlen4 := b4.length
    refine ⟨gg, pg, gl2, _, rfl, rfl, sJ _ _ hg4, upd_same, by rw [hlen4]; show 9 + 6 ≤ sizeLine; decide, fun gz ngz => ?_⟩
    have s37 := sm_upd ngz (o := .lst (gl2 ++ [r1, r2, r3, r4, .ref D5, r6]))
    have b5 := ((b4.sm sJ).sm s37).append (a5.sm s37)
    have hgz : (upd (upd H35 pg (.lst [r1, r2, r3, r4, .ref D5, r6])) gz (.lst (gl2 ++ [r1, r2, r3, r4, .ref D5, r6]))) gz = some (.lst (gl2 ++ [r1, r2, r3, r4, .ref D5, r6])) := upd_same
    have c5 := (c4.sm sJ).sm s37
    have hdf5 := s37 _ _ (sJ _ _ hdf4)
    have sK := (sI.trans sJ).trans s37
    revert b5 hgz c5 hdf5 sK
    generalize upd (upd H35 pg (.lst [r1, r2, r3, r4, .ref D5, r6])) gz (.lst (gl2 ++ [r1, r2, r3, r4, .ref D5, r6])) = H37
    generalize gl2 ++ [r1, r2, r3, r4, .ref D5, r6] = gl3
    intro b5 hgz c5 hdf5 sK
    -- same(got, due + [..])
    refine ⟨_, rfl, _, rfl, ?_⟩
    refine fun fv H38 s38 hfv => ?_
    obtain ⟨fa, fvs, rfl, hfa, _, hfl⟩ := hfv.lstE
    have l3a := c5.length
    have l4a := hfl.length
    refine ⟨df, fa, dl, fvs, rfl, rfl, s38 _ _ hdf5, hfa, by rw [l3a, l4a]; show 9 + 6 ≤ sizeLine; decide, fun dz ndz => ?_⟩
    have s39 := sm_upd ndz (o := .lst (dl ++ fvs))
    have c6 := ((c5.sm s38).sm s39).append (hfl.sm s39)
    have b6 := (b5.sm s38).sm s39
    have hgz6 := s39 _ _ (s38 _ _ hgz)
    refine ⟨.ref gz, .ref dz, _, rfl, .lst hgz6 (l3_tin b6 rfl) b6, .lst upd_same (l3_tin c6 rfl) c6, fit_of 4 _ (by decide +kernel), fun H40 s40 => q H40 (((sK.trans s38).trans s39).trans s40)⟩
end
end Hp5

set_option maxHeartbeats 4000000
/-! the law -/
namespace Hp5
open PySem PySem.Spec PyProof.Rows L2
section
variable {P : Program} {w : World} {K : PySem.W.Frag} {mg : Str → Option Value} {base : Heap}
def spLaw (K : PySem.W.Frag) : Sp := fun vs H Q _ => ∃ (a : Addr) (ns : List Int), vs = [.ref a] ∧ SqL K H a (ns.map V.int) ∧ ns.length ≤ 63 ∧ ∀ H', Q (.bl true) H'
abbrev ns_law : List Str := ["_law_script"]
theorem sc_law : FnScope ns_law ["_law_script"] (defScope s_law) := ⟨rfl, rfl, rfl, by decide +kernel, rfl, by decide +kernel, by decide +kernel⟩
theorem law_fn {f : Addr} {fd : FuncData} (F : FnP K "law" s_law f fd) (T : Tx K mg) : FnOk P w K mg base CX0 9 f fd ["_law_script"] (spLaw K) := by
  have G_l_hand_right : OkD P w K mg base 8 "_law_hand_right" [] spHand := ok_l_hand_right T
  have G_l_right : OkD P w K mg base 8 "_law_right" ["_law_tin"] spRight := ok_l_right T
  have G_l_box : OkD P w K mg base 1 "_law_box" ["_law_script", "_law_k"] spBox := ok_l_box T
  have G_l_cells : OkD P w K mg base 1 "_law_cells" ["_law_script", "_law_most_so"] (spCells (K := K)) := ok_l_cells T
  refine F.ok sc_law (fun vs H Q E h => ?_) (fun cdv A outer s H vs Q E hr h => ?_)
  · obtain ⟨a, ns, rfl, _⟩ := h
    rfl
  · obtain ⟨a, ns, rfl, ha, hl, q⟩ := h
    have nn := sc_law.nd
    suffices z : ∃ t, PSs (cxOf CX0 P w K mg base ns_law "law" (defScope s_law) f cdv A outer s H E).nox (defBody s_law) t ∧ t { nx := fun _ H' => Q .non H', rt := Q } (start ns_law [V.ref a]) H by
      obtain ⟨t, h1, h2⟩ := z
      exact ⟨t, h1.nox, h2⟩
    -- slots: 0 _law_script; calls: _law_box, _law_cells, _law_hand_right, _law_right
    refine ⟨_, (pss_one (ps_ret (pe_and (pe_c0 G_l_hand_right hr (by decide)) (pe_one (pe_c G_l_right hr (by decide) (pa_cons (pe_c G_l_box hr (by decide) (pa_cons (pe_c G_l_cells hr (by decide) (pa_cons (pv 0) (pa_cons pe_int pa_nil))) (pa_cons pe_int pa_nil))) pa_nil)))))), ?_⟩
    refine ⟨rfl, fun H1 s1 => ⟨true, rfl, iteT ?_⟩⟩
    refine ⟨_, rfl, a, ns, rfl, sqL_sm ha s1, by omega, fun c i H2 s2 hc => ?_⟩
    refine ⟨c, i, rfl, hc, fun t H3 s3 ht => ?_⟩
    exact ⟨t, rfl, ht, fun H' => q H'⟩
theorem facts {P : Program} {w : World} {K : PySem.W.Frag} {h : Heap} {mg : Str → Option Value} {f : Addr} (X : K.In h) (G : h.Ns mainGlobals mg) (hfa : mg ("law" : Str) = some (.ref f)) (c : He.SaysD fa fn K) :
    ∃ fd : FuncData, (∀ (s : Shared) (v : Value), BindsTo s fd ⟨[v], []⟩ [("_law_script", v)]) ∧ ∀ base : Heap, K.In base → base.Ns mainGlobals mg → FnOk P w K mg base CX0 9 f fd ["_law_script"] (spLaw K) := by
  have T := tx_of X G c
  obtain ⟨fd, F⟩ := c.def_ 43 (d := dd_law) rfl
  have e := hfa.symm.trans (He.glo_ok X G (c.fact 43 (f := .glo "law") rfl))
  cases e
  have b := FunD.bindsA (ps := ["_law_script"]) F fun _ _ _ _ _ _ us hl => match us, hl with | [_], _ => rfl
  exact ⟨fd, fun s v => b s [v] rfl, fun base _ _ => law_fn F T⟩
end
end Hp5

set_option maxHeartbeats 0
open PySem PySem.W PySem.Calls PyProof.Rows
theorem PySem.Challenge.cw_handlepairs_k05_whole_corners_by_own_wal_holds : PySem.Challenge.rw_handlepairs_k05_whole_corners_by_own_wal.Holds := by
  w_on; o_law
  refine HandSHeadRun.head_any (r := OpenLaw.row PySem.Challenge.rw_handlepairs_k05_whole_corners_by_own_wal) (q := view (OpenLaw.row PySem.Challenge.rw_handlepairs_k05_whole_corners_by_own_wal).prog [52]) (H := Hp5.hk) (ob := Hp5.ob) (M := 4000) (loose := Hp5.loose) (d := HandSHeadRun.topDef (OpenLaw.row PySem.Challenge.rw_handlepairs_k05_whole_corners_by_own_wal).prog 52) (kwd := []) Hp5.ob_eq
    (by kernel_rfl) (fun s => by kernel_rfl) Hp5.run (by kernel_rfl) (by kernel_rfl) (by kernel_rfl) (by rfl) (by first | assumption | decide +kernel) (by decide +kernel) ⟨rfl, rfl, rfl, rfl, rfl, by decide +kernel⟩ ?hw ?hc
  case hw => w_witness2
  case hc =>
    refine L2.walk_ofE (l := PySem.Challenge.rw_handlepairs_k05_whole_corners_by_own_wal) (n := 63) (k := 9) (x := "_law_script") (CX := L2.CX0) rfl (by decide) (by kernel_rfl) ⟨rfl, by decide, by decide⟩ ?F (fun _ _ _ _ z => z)
    intro w mg fa h Y G hmg0
    obtain ⟨K, KX, c⟩ := Y
    have hmg : mg ("law" : PySem.Str) = some (.ref fa) := by
      have e : (HandSHeadRun.topDef (OpenLaw.row PySem.Challenge.rw_handlepairs_k05_whole_corners_by_own_wal).prog 52).name = ("law" : PySem.Str) := by kernel_rfl
      rw [← e]
      exact hmg0
    obtain ⟨fd, hb, hF⟩ := Hp5.facts (P := (PySem.Challenge.rw_handlepairs_k05_whole_corners_by_own_wal).prog) (w := w) KX G hmg c
    exact ⟨K, fd, Hp5.spLaw K, KX, hb, fun H a ns hl _ hS => ⟨a, ns, rfl, hS, hl, fun _ => rfl⟩, hF⟩

