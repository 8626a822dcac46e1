import PyProof.Rows.All
import HandS.Head0
import HandS.Head1
import HandS.Head2
import HandS.Head3
import HandS.HeadEnd
import HandS.HeadHook1
import HandS.HeadHook2
import HandS.HeadHook3
import HandS.HeadHook4
import HandS.ForMost
import HandS.Walk
import HandS.Zip
import HandS.DictComp
import HandS.Deep
import HandS.TupAny
import HandS.TupLe
import HandS.IsInst
import HandS.Style
import HandS.Steps
import KE.KDictZip
import KE.GoesEnum
import KE.SortData
import KE.DataMinMax
import PyProof.EnumMake
import KE.GoesMore
import HandS.More
import HandS.Defaults
import HandS.Sort
import HandS.Text
import PySem.Challenge.RW_trueatlas_k69_whole_tiles_have_no_seams
set_option Elab.async false
set_option linter.all false
set_option maxRecDepth 100000
set_option maxHeartbeats 0
namespace TA
open PySem PySem.Spec L2
def topS (i : Nat) : Stmt := PySem.Challenge.pw_trueatlas_k69_whole_tiles_have_no_seams.main.body.getD i (.Pass ⟨0, 0, 0, 0⟩)
def bodyS (st : Stmt) (i : Nat) : Stmt := match st with
  | .ClassDef (body := b) .. => b.getD i (.Pass ⟨0, 0, 0, 0⟩)
  | _ => .Pass ⟨0, 0, 0, 0⟩
def unitsL : List Int := [1, 2, 4, 8, 16, 32, 64]
abbrev s_is_whole : Stmt := (topS 5)
abbrev s_is_point : Stmt := (topS 10)
abbrev s_is_line : Stmt := (topS 11)
abbrev s_turned : Stmt := (topS 12)
abbrev s_edge_of : Stmt := (topS 13)
abbrev s_are_beside : Stmt := (topS 16)
abbrev s_meet : Stmt := (topS 17)
abbrev s_is_name : Stmt := (topS 21)
abbrev s_are_points : Stmt := (topS 23)
abbrev s_around : Stmt := (topS 24)
abbrev s_goes_simply : Stmt := (topS 25)
abbrev s_size : Stmt := (topS 26)
abbrev s_is_ring : Stmt := (topS 27)
abbrev s_is_shape : Stmt := (topS 31)
abbrev s_is_thing : Stmt := (topS 32)
abbrev s_is_map : Stmt := (topS 33)
abbrev s_is_between : Stmt := (topS 42)
abbrev s_is_scale : Stmt := (topS 43)
abbrev s_is_look : Stmt := (topS 44)
abbrev s_is_rule : Stmt := (topS 45)
abbrev s_is_style : Stmt := (topS 46)
abbrev s_check_style : Stmt := (topS 47)
abbrev s_check_scale : Stmt := (topS 48)
abbrev s_check_map : Stmt := (topS 49)
abbrev s_fits : Stmt := (topS 50)
abbrev s_applying_rules : Stmt := (topS 51)
abbrev s_marks_of : Stmt := (topS 52)
abbrev s_is_pixel : Stmt := (topS 57)
abbrev s_centre_of : Stmt := (topS 58)
abbrev s_doubled : Stmt := (topS 59)
abbrev s_ways_of : Stmt := (topS 60)
abbrev s_edges_of : Stmt := (topS 61)
abbrev s_is_east : Stmt := (topS 62)
abbrev s_is_near : Stmt := (topS 63)
abbrev s___init__ : Stmt := (bodyS (topS 64) 0)
abbrev s_covers : Stmt := (bodyS (topS 64) 1)
abbrev s_painters_of : Stmt := (topS 65)
abbrev s_highest : Stmt := (topS 66)
abbrev s_is_window : Stmt := (topS 67)
abbrev s_painted : Stmt := (topS 68)
abbrev s_picture : Stmt := (topS 69)
abbrev s_is_tile : Stmt := (topS 75)
abbrev s_is_sheet : Stmt := (topS 76)
abbrev s_check_sheet : Stmt := (topS 77)
abbrev s_drawn_tile : Stmt := (topS 78)
abbrev s_tile_picture : Stmt := (topS 79)
abbrev s_check_sheets : Stmt := (topS 80)
abbrev s_joined : Stmt := (topS 81)
abbrev s__law_stream : Stmt := (topS 83)
abbrev s__law_next : Stmt := (topS 84)
abbrev s__law_coordinate : Stmt := (topS 85)
abbrev s__law_ring : Stmt := (topS 86)
abbrev s__law_shape : Stmt := (topS 87)
abbrev s__law_map : Stmt := (topS 88)
abbrev s__law_look : Stmt := (topS 89)
abbrev s__law_style : Stmt := (topS 90)
abbrev s__law_fits : Stmt := (topS 91)
abbrev s__law_marks : Stmt := (topS 92)
abbrev s__law_edges : Stmt := (topS 93)
abbrev s__law_is_odd : Stmt := (topS 94)
abbrev s__law_is_within : Stmt := (topS 95)
abbrev s__law_covers : Stmt := (topS 96)
abbrev s__law_top : Stmt := (topS 97)
abbrev s_law : Stmt := (topS 98)
def frL : List Str := ["isinstance", "int", "bool", "tuple", "str", "list", "len", "all", "any", "abs", "min", "range", "zip", "sorted", "enumerate"]
def giL : List (Str × Int) := [("FARTHEST", 1000), ("LONGEST", 40), ("MOST_RINGS", 6), ("MOST_THINGS", 60), ("MOST_SCALE", 6), ("MOST_COLOUR", 63), ("MOST_SIZE", 16), ("MOST_ORDER", 8), ("MOST_RULES", 12), ("LEAST_PIXEL", -2048), ("MOST_PIXEL", 2047), ("MOST_WINDOW", 48), ("SIDE", 16), ("LEAST_TILE", -128), ("MOST_TILE", 127), ("MOST_SHEETS", 4)]
def gsL : List (Str × Str) := [("LETTERS", "abcdefghijklmnopqrstuvwxyz"), ("DIGITS", "0123456789")]
def dfL : List (Str × Stmt) := ([(Str.ofString "is_whole", s_is_whole), (Str.ofString "is_point", s_is_point), (Str.ofString "is_line", s_is_line), (Str.ofString "turned", s_turned), (Str.ofString "edge_of", s_edge_of), (Str.ofString "are_beside", s_are_beside), (Str.ofString "meet", s_meet), (Str.ofString "is_name", s_is_name), (Str.ofString "are_points", s_are_points), (Str.ofString "around", s_around), (Str.ofString "goes_simply", s_goes_simply), (Str.ofString "size", s_size), (Str.ofString "is_ring", s_is_ring), (Str.ofString "is_shape", s_is_shape), (Str.ofString "is_thing", s_is_thing), (Str.ofString "is_map", s_is_map), (Str.ofString "is_between", s_is_between), (Str.ofString "is_scale", s_is_scale), (Str.ofString "is_look", s_is_look), (Str.ofString "is_rule", s_is_rule)] : List (Str × Stmt)) ++ ([(Str.ofString "is_style", s_is_style), (Str.ofString "check_style", s_check_style), (Str.ofString "check_scale", s_check_scale), (Str.ofString "check_map", s_check_map), (Str.ofString "fits", s_fits), (Str.ofString "applying_rules", s_applying_rules), (Str.ofString "marks_of", s_marks_of), (Str.ofString "is_pixel", s_is_pixel), (Str.ofString "centre_of", s_centre_of), (Str.ofString "doubled", s_doubled), (Str.ofString "ways_of", s_ways_of), (Str.ofString "edges_of", s_edges_of), (Str.ofString "is_east", s_is_east), (Str.ofString "is_near", s_is_near), (Str.ofString "painters_of", s_painters_of), (Str.ofString "highest", s_highest), (Str.ofString "is_window", s_is_window), (Str.ofString "painted", s_painted), (Str.ofString "picture", s_picture), (Str.ofString "is_tile", s_is_tile)] : List (Str × Stmt)) ++ ([(Str.ofString "is_sheet", s_is_sheet), (Str.ofString "check_sheet", s_check_sheet), (Str.ofString "drawn_tile", s_drawn_tile), (Str.ofString "tile_picture", s_tile_picture), (Str.ofString "check_sheets", s_check_sheets), (Str.ofString "joined", s_joined), (Str.ofString "_law_stream", s__law_stream), (Str.ofString "_law_next", s__law_next), (Str.ofString "_law_coordinate", s__law_coordinate), (Str.ofString "_law_ring", s__law_ring), (Str.ofString "_law_shape", s__law_shape), (Str.ofString "_law_map", s__law_map), (Str.ofString "_law_look", s__law_look), (Str.ofString "_law_style", s__law_style), (Str.ofString "_law_fits", s__law_fits), (Str.ofString "_law_marks", s__law_marks), (Str.ofString "_law_edges", s__law_edges), (Str.ofString "_law_is_odd", s__law_is_odd), (Str.ofString "_law_is_within", s__law_is_within), (Str.ofString "_law_covers", s__law_covers)] : List (Str × Stmt)) ++ ([(Str.ofString "_law_top", s__law_top), (Str.ofString "law", s_law)] : List (Str × Stmt))
end TA
/-! Printed by genh.py: the head's facts, the top's run. -/
namespace TA
open PySem PySem.Spec L2
abbrev hR : PySem.W.OpenRow := PySem.W.OpenLaw.row PySem.Challenge.rw_trueatlas_k69_whole_tiles_have_no_seams
def loose0 : List PySem.Str := ["MapError", "BadValue", "is_whole", "lowest", "FARTHEST", "LONGEST", "is_point", "is_line", "turned", "edge_of", "on_one_line", "are_beside", "meet", "LETTERS", "DIGITS"]
def loose1 : List PySem.Str := ["is_name", "are_points", "around", "goes_simply", "size", "is_ring", "MOST_RINGS", "MOST_THINGS", "is_shape", "is_thing", "is_map", "MOST_SCALE", "UNITS", "MOST_COLOUR", "MOST_SIZE"]
def loose2 : List PySem.Str := ["MOST_ORDER", "MOST_RULES", "FITTING", "is_between", "is_scale", "is_look", "is_rule", "is_style", "check_style", "check_scale", "check_map", "fits", "applying_rules", "marks_of", "LEAST_PIXEL"]
def loose3 : List PySem.Str := ["MOST_PIXEL", "MOST_WINDOW", "is_pixel", "centre_of", "doubled", "ways_of", "edges_of", "is_east", "is_near", "Painter", "painters_of", "highest", "is_window", "painted", "picture"]
def loose4 : List PySem.Str := ["SIDE", "LEAST_TILE", "MOST_TILE", "MOST_SHEETS", "is_tile", "is_sheet", "check_sheet", "drawn_tile", "tile_picture", "check_sheets", "joined", "_law_stream", "_law_next", "_law_coordinate", "_law_ring"]
def loose5 : List PySem.Str := ["_law_shape", "_law_map", "_law_look", "_law_style", "_law_fits", "_law_marks", "_law_edges", "_law_is_odd", "_law_is_within", "_law_covers", "_law_top"]
def looseL : List PySem.Str := loose0 ++ loose1 ++ loose2 ++ loose3 ++ loose4 ++ loose5
def hfn0 : List He.DefD := [⟨("is_whole", none), "is_whole", "is_whole", defArgs s_is_whole, defBody s_is_whole, defScope s_is_whole, [], []⟩,
  ⟨("is_point", none), "is_point", "is_point", defArgs s_is_point, defBody s_is_point, defScope s_is_point, [], []⟩,
  ⟨("is_line", none), "is_line", "is_line", defArgs s_is_line, defBody s_is_line, defScope s_is_line, [], []⟩,
  ⟨("turned", none), "turned", "turned", defArgs s_turned, defBody s_turned, defScope s_turned, [], []⟩,
  ⟨("edge_of", none), "edge_of", "edge_of", defArgs s_edge_of, defBody s_edge_of, defScope s_edge_of, [], []⟩,
  ⟨("are_beside", none), "are_beside", "are_beside", defArgs s_are_beside, defBody s_are_beside, defScope s_are_beside, [], []⟩,
  ⟨("meet", none), "meet", "meet", defArgs s_meet, defBody s_meet, defScope s_meet, [], []⟩,
  ⟨("is_name", none), "is_name", "is_name", defArgs s_is_name, defBody s_is_name, defScope s_is_name, [], []⟩,
  ⟨("are_points", none), "are_points", "are_points", defArgs s_are_points, defBody s_are_points, defScope s_are_points, [], []⟩,
  ⟨("around", none), "around", "around", defArgs s_around, defBody s_around, defScope s_around, [], []⟩,
  ⟨("goes_simply", none), "goes_simply", "goes_simply", defArgs s_goes_simply, defBody s_goes_simply, defScope s_goes_simply, [], []⟩,
  ⟨("size", none), "size", "size", defArgs s_size, defBody s_size, defScope s_size, [], []⟩,
  ⟨("is_ring", none), "is_ring", "is_ring", defArgs s_is_ring, defBody s_is_ring, defScope s_is_ring, [], []⟩,
  ⟨("is_shape", none), "is_shape", "is_shape", defArgs s_is_shape, defBody s_is_shape, defScope s_is_shape, [], []⟩,
  ⟨("is_thing", none), "is_thing", "is_thing", defArgs s_is_thing, defBody s_is_thing, defScope s_is_thing, [], []⟩,
  ⟨("is_map", none), "is_map", "is_map", defArgs s_is_map, defBody s_is_map, defScope s_is_map, [], []⟩,
  ⟨("is_between", none), "is_between", "is_between", defArgs s_is_between, defBody s_is_between, defScope s_is_between, [], []⟩,
  ⟨("is_scale", none), "is_scale", "is_scale", defArgs s_is_scale, defBody s_is_scale, defScope s_is_scale, [], []⟩,
  ⟨("is_look", none), "is_look", "is_look", defArgs s_is_look, defBody s_is_look, defScope s_is_look, [], []⟩,
  ⟨("is_rule", none), "is_rule", "is_rule", defArgs s_is_rule, defBody s_is_rule, defScope s_is_rule, [], []⟩]
def hfn1 : List He.DefD := [⟨("is_style", none), "is_style", "is_style", defArgs s_is_style, defBody s_is_style, defScope s_is_style, [], []⟩,
  ⟨("check_style", none), "check_style", "check_style", defArgs s_check_style, defBody s_check_style, defScope s_check_style, [], []⟩,
  ⟨("check_scale", none), "check_scale", "check_scale", defArgs s_check_scale, defBody s_check_scale, defScope s_check_scale, [], []⟩,
  ⟨("check_map", none), "check_map", "check_map", defArgs s_check_map, defBody s_check_map, defScope s_check_map, [], []⟩,
  ⟨("fits", none), "fits", "fits", defArgs s_fits, defBody s_fits, defScope s_fits, [], []⟩,
  ⟨("applying_rules", none), "applying_rules", "applying_rules", defArgs s_applying_rules, defBody s_applying_rules, defScope s_applying_rules, [], []⟩,
  ⟨("marks_of", none), "marks_of", "marks_of", defArgs s_marks_of, defBody s_marks_of, defScope s_marks_of, [], []⟩,
  ⟨("is_pixel", none), "is_pixel", "is_pixel", defArgs s_is_pixel, defBody s_is_pixel, defScope s_is_pixel, [], []⟩,
  ⟨("centre_of", none), "centre_of", "centre_of", defArgs s_centre_of, defBody s_centre_of, defScope s_centre_of, [], []⟩,
  ⟨("doubled", none), "doubled", "doubled", defArgs s_doubled, defBody s_doubled, defScope s_doubled, [], []⟩,
  ⟨("ways_of", none), "ways_of", "ways_of", defArgs s_ways_of, defBody s_ways_of, defScope s_ways_of, [], []⟩,
  ⟨("edges_of", none), "edges_of", "edges_of", defArgs s_edges_of, defBody s_edges_of, defScope s_edges_of, [], []⟩,
  ⟨("is_east", none), "is_east", "is_east", defArgs s_is_east, defBody s_is_east, defScope s_is_east, [], []⟩,
  ⟨("is_near", none), "is_near", "is_near", defArgs s_is_near, defBody s_is_near, defScope s_is_near, [], []⟩,
  ⟨("painters_of", none), "painters_of", "painters_of", defArgs s_painters_of, defBody s_painters_of, defScope s_painters_of, [], []⟩,
  ⟨("highest", none), "highest", "highest", defArgs s_highest, defBody s_highest, defScope s_highest, [], []⟩,
  ⟨("is_window", none), "is_window", "is_window", defArgs s_is_window, defBody s_is_window, defScope s_is_window, [], []⟩,
  ⟨("painted", none), "painted", "painted", defArgs s_painted, defBody s_painted, defScope s_painted, [], []⟩,
  ⟨("picture", none), "picture", "picture", defArgs s_picture, defBody s_picture, defScope s_picture, [], []⟩,
  ⟨("is_tile", none), "is_tile", "is_tile", defArgs s_is_tile, defBody s_is_tile, defScope s_is_tile, [], []⟩]
def hfn2 : List He.DefD := [⟨("is_sheet", none), "is_sheet", "is_sheet", defArgs s_is_sheet, defBody s_is_sheet, defScope s_is_sheet, [], []⟩,
  ⟨("check_sheet", none), "check_sheet", "check_sheet", defArgs s_check_sheet, defBody s_check_sheet, defScope s_check_sheet, [], []⟩,
  ⟨("drawn_tile", none), "drawn_tile", "drawn_tile", defArgs s_drawn_tile, defBody s_drawn_tile, defScope s_drawn_tile, [], []⟩,
  ⟨("tile_picture", none), "tile_picture", "tile_picture", defArgs s_tile_picture, defBody s_tile_picture, defScope s_tile_picture, [], []⟩,
  ⟨("check_sheets", none), "check_sheets", "check_sheets", defArgs s_check_sheets, defBody s_check_sheets, defScope s_check_sheets, [], []⟩,
  ⟨("joined", none), "joined", "joined", defArgs s_joined, defBody s_joined, defScope s_joined, [], []⟩,
  ⟨("_law_stream", none), "_law_stream", "_law_stream", defArgs s__law_stream, defBody s__law_stream, defScope s__law_stream, [], []⟩,
  ⟨("_law_next", none), "_law_next", "_law_next", defArgs s__law_next, defBody s__law_next, defScope s__law_next, [], []⟩,
  ⟨("_law_coordinate", none), "_law_coordinate", "_law_coordinate", defArgs s__law_coordinate, defBody s__law_coordinate, defScope s__law_coordinate, [], []⟩,
  ⟨("_law_ring", none), "_law_ring", "_law_ring", defArgs s__law_ring, defBody s__law_ring, defScope s__law_ring, [], []⟩,
  ⟨("_law_shape", none), "_law_shape", "_law_shape", defArgs s__law_shape, defBody s__law_shape, defScope s__law_shape, [], []⟩,
  ⟨("_law_map", none), "_law_map", "_law_map", defArgs s__law_map, defBody s__law_map, defScope s__law_map, [], []⟩,
  ⟨("_law_look", none), "_law_look", "_law_look", defArgs s__law_look, defBody s__law_look, defScope s__law_look, [], []⟩,
  ⟨("_law_style", none), "_law_style", "_law_style", defArgs s__law_style, defBody s__law_style, defScope s__law_style, [], []⟩,
  ⟨("_law_fits", none), "_law_fits", "_law_fits", defArgs s__law_fits, defBody s__law_fits, defScope s__law_fits, [], []⟩,
  ⟨("_law_marks", none), "_law_marks", "_law_marks", defArgs s__law_marks, defBody s__law_marks, defScope s__law_marks, [], []⟩,
  ⟨("_law_edges", none), "_law_edges", "_law_edges", defArgs s__law_edges, defBody s__law_edges, defScope s__law_edges, [], []⟩,
  ⟨("_law_is_odd", none), "_law_is_odd", "_law_is_odd", defArgs s__law_is_odd, defBody s__law_is_odd, defScope s__law_is_odd, [], []⟩,
  ⟨("_law_is_within", none), "_law_is_within", "_law_is_within", defArgs s__law_is_within, defBody s__law_is_within, defScope s__law_is_within, [], []⟩,
  ⟨("_law_covers", none), "_law_covers", "_law_covers", defArgs s__law_covers, defBody s__law_covers, defScope s__law_covers, [], []⟩]
def hfn3 : List He.DefD := [⟨("_law_top", none), "_law_top", "_law_top", defArgs s__law_top, defBody s__law_top, defScope s__law_top, [], []⟩,
  ⟨("law", none), "law", "law", defArgs s_law, defBody s_law, defScope s_law, [], []⟩,
  ⟨("Painter", some "__init__"), "__init__", "Painter.__init__", defArgs s___init__, defBody s___init__, defScope s___init__, [], []⟩,
  ⟨("Painter", some "covers"), "covers", "Painter.covers", defArgs s_covers, defBody s_covers, defScope s_covers, [], []⟩]
def hfn : List He.DefD := hfn0 ++ hfn1 ++ hfn2 ++ hfn3
def hfr : List He.Fa := frL.map He.Fa.free
def hgi : List He.Fa := giL.map fun p => He.Fa.int p.1 p.2
def hgs : List He.Fa := gsL.map fun p => He.Fa.str p.1 p.2
def hgl : List He.Fa := dfL.map fun p => He.Fa.glo p.1
def hcl : List He.Fa := [.glo "Painter", .glo "UNITS", .glo "FITTING", .cls "Painter", .noat "Painter" "look", .noat "Painter" "edges", .noat "Painter" "point", .noat "Painter" "square", .meth "Painter" "covers", .mkr "Painter"]
def hfa : List He.Fa := hfr ++ (hgi ++ (hgs ++ (hgl ++ hcl)))
/-- the tuple at the key x of FITTING -/
def fitA (x : Str) (K : PySem.W.Frag) : Addr := match PySem.W.nsIn K (He.ga K "FITTING") x with
  | some (some (.ref a)) => a
  | _ => 0
def tupAt (K : PySem.W.Frag) (a : Addr) (vs : List V) : Bool := match K.lookup a with
  | some ⟨.type c, _, .seq its _, _⟩ => decide (c = "tuple") && (decide (its.size ≤ sizeLine) && He.relAll vs its.toList)
  | _ => false
def fitB (K : PySem.W.Frag) (x : Str) (zs : List Str) : Bool := (match PySem.W.nsIn K (He.ga K "FITTING") x with
  | some (some (.ref a)) => tupAt K a (zs.map V.str)
  | _ => false)
def hex (K : PySem.W.Frag) : Bool := tupAt K (He.ga K "UNITS") (unitsL.map V.int) && (fitB K "fill" ["area"] && (fitB K "stroke" ["line", "area"] && fitB K "dot" ["point"]))
def hts : List He.Tab := [(fun K => He.ga K "FITTING", ["fill", "stroke", "dot"])]
abbrev hk : PySem.W.Hook := He.hookX 5 hfa hfn hts [] hex
def hob (s : PySem.W.SharedT) : He.AlX := He.obsX 5 hfa hfn hts [] hex (HandSHeadRun.getT s)
theorem hob_eq (s : PySem.W.SharedT) : hob s = hk.obs s.abs := He.obsX_eq (HandSHeadRun.getT_eq s)
end TA

namespace TA
open PySem PySem.Spec L2
theorem hrunF (w : World) : HandSHeadRun.RunEqI hR (PySem.W.view hR.prog [0, 98]) hk hob 20000 looseL (w.withFollow "special-get-raises" false) := by
  unfold HandSHeadRun.RunEqI
  kernel_rfl
theorem hrunT (w : World) : HandSHeadRun.RunEqI hR (PySem.W.view hR.prog [0, 98]) hk hob 20000 looseL (w.withFollow "special-get-raises" true) := by
  unfold HandSHeadRun.RunEqI
  kernel_rfl
theorem hrun (w : World) : HandSHeadRun.RunEqI hR (PySem.W.view hR.prog [0, 98]) hk hob 20000 looseL w := PySem.W.byRow2 "special-get-raises" hrunF hrunT w
end TA

/-! The data layer: what a reading of the hand layer does, said over plain data alone (no heap). -/
namespace TA
open PySem PySem.Spec PyProof.Rows L2

/-- data: what a value stands for; pnt: an object Painter -/
inductive D where
  | non | bl (b : Bool) | int (i : Int) | str (x : Str) | ty (n : String)
  | tup (ds : List D) | lst (ds : List D)
  | pnt (lk es p : D) (sq : Int)

mutual
/-- the value v stands for d in the data heap G -/
inductive Rp (K : PySem.W.Frag) (C : Addr) (G : Hp) : V → D → Prop
  | non : Rp K C G .non .non
  | bl (b : Bool) : Rp K C G (.bl b) (.bl b)
  | int (i : Int) : Rp K C G (.int i) (.int i)
  | str (x : Str) : Rp K C G (.str x) (.str x)
  | ty (n : String) : Rp K C G (.ty n) (.ty n)
  | tup {a : Addr} {xs : List V} {ds : List D} : SqT K G a xs → RpAll K C G xs ds → Rp K C G (.ref a) (.tup ds)
  | lst {a : Addr} {xs : List V} {ds : List D} : G a = some (.lst xs) → RpAll K C G xs ds → Rp K C G (.ref a) (.lst ds)
  | pnt {a dx : Addr} {fs : List (Str × V)} {v1 v2 v3 : V} {lk es p : D} {sq : Int} : G a = some (.ins C dx fs) →
      fs.lookup ("look" : Str) = some v1 → fs.lookup ("edges" : Str) = some v2 → fs.lookup ("point" : Str) = some v3 → fs.lookup ("square" : Str) = some (V.int sq) → fs.lookup ("covers" : Str) = none →
      Rp K C G v1 lk → Rp K C G v2 es → Rp K C G v3 p → Rp K C G (.ref a) (.pnt lk es p sq)
inductive RpAll (K : PySem.W.Frag) (C : Addr) (G : Hp) : List V → List D → Prop
  | nil : RpAll K C G [] []
  | cons {v : V} {vs : List V} {d : D} {ds : List D} : Rp K C G v d → RpAll K C G vs ds → RpAll K C G (v :: vs) (d :: ds)
end

theorem Same.seqT {K : PySem.W.Frag} {H H' : Hp} {a : Addr} {xs : List V} (e : Same H H') (h : SqT K H a xs) : SqT K H' a xs := by
  rcases h with (h | ⟨o, h⟩) | h
  · exact .inl (.inl (e _ _ h))
  · exact .inl (.inr ⟨o, e _ _ h⟩)
  · exact .inr h

section
variable {K : PySem.W.Frag} {C : Addr} {G G' H H' : Hp}
mutual
theorem Rp.mono (e : Same G G') : ∀ {v : V} {d : D}, Rp K C G v d → Rp K C G' v d
  | _, _, .non => .non
  | _, _, .bl b => .bl b
  | _, _, .int i => .int i
  | _, _, .str x => .str x
  | _, _, .ty n => .ty n
  | _, _, .tup h r => .tup (Same.seqT e h) (RpAll.mono e r)
  | _, _, .lst h r => .lst (e _ _ h) (RpAll.mono e r)
  | _, _, .pnt h l1 l2 l3 l4 l5 r1 r2 r3 => .pnt (e _ _ h) l1 l2 l3 l4 l5 (Rp.mono e r1) (Rp.mono e r2) (Rp.mono e r3)
theorem RpAll.mono (e : Same G G') : ∀ {vs : List V} {ds : List D}, RpAll K C G vs ds → RpAll K C G' vs ds
  | _, _, .nil => .nil
  | _, _, .cons r t => .cons (Rp.mono e r) (RpAll.mono e t)
end
theorem RpAll.len : ∀ {vs : List V} {ds : List D}, RpAll K C G vs ds → vs.length = ds.length
  | _, _, .nil => rfl
  | _, _, .cons _ t => congrArg (· + 1) (RpAll.len t)
theorem RpAll.get : ∀ {vs : List V} {ds : List D} {i : Nat} {d : D}, RpAll K C G vs ds → ds[i]? = some d → ∃ v, vs[i]? = some v ∧ Rp K C G v d
  | _, _, i, d, .nil, e => by simp at e
  | _, _, 0, d, .cons r _, e => by
    simp only [List.getElem?_cons_zero, Option.some.injEq] at e
    subst e
    exact ⟨_, rfl, r⟩
  | _, _, i + 1, d, .cons _ t, e => by
    simp only [List.getElem?_cons_succ] at e
    obtain ⟨v, h1, h2⟩ := RpAll.get t e
    exact ⟨v, by simpa using h1, h2⟩
theorem RpAll.getV : ∀ {vs : List V} {ds : List D} {i : Nat} {v : V}, RpAll K C G vs ds → vs[i]? = some v → ∃ d, ds[i]? = some d ∧ Rp K C G v d
  | _, _, i, d, .nil, e => by simp at e
  | _, _, 0, d, .cons r _, e => by
    simp only [List.getElem?_cons_zero, Option.some.injEq] at e
    subst e
    exact ⟨_, rfl, r⟩
  | _, _, i + 1, d, .cons _ t, e => by
    simp only [List.getElem?_cons_succ] at e
    obtain ⟨v, h1, h2⟩ := RpAll.getV t e
    exact ⟨v, by simpa using h1, h2⟩
theorem RpAll.append : ∀ {vs ws : List V} {ds es : List D}, RpAll K C G vs ds → RpAll K C G ws es → RpAll K C G (vs ++ ws) (ds ++ es)
  | _, _, _, _, .nil, s => s
  | _, _, _, _, .cons r t, s => .cons r (RpAll.append t s)
theorem RpAll.one {v : V} {d : D} (r : Rp K C G v d) : RpAll K C G [v] [d] := .cons r .nil
theorem RpAll.drop : ∀ {vs : List V} {ds : List D} (n : Nat), RpAll K C G vs ds → RpAll K C G (vs.drop n) (ds.drop n)
  | _, _, 0, r => r
  | _, _, _ + 1, .nil => .nil
  | _, _, n + 1, .cons _ t => RpAll.drop n t
theorem RpAll.take : ∀ {vs : List V} {ds : List D} (n : Nat), RpAll K C G vs ds → RpAll K C G (vs.take n) (ds.take n)
  | _, _, 0, _ => .nil
  | _, _, _ + 1, .nil => .nil
  | _, _, n + 1, .cons r t => .cons r (RpAll.take n t)
theorem RpAll.reverse : ∀ {vs : List V} {ds : List D}, RpAll K C G vs ds → RpAll K C G vs.reverse ds.reverse
  | _, _, .nil => .nil
  | _, _, .cons r t => by
    rw [List.reverse_cons, List.reverse_cons]
    exact (RpAll.reverse t).append (.one r)
theorem RpAll.set : ∀ {vs : List V} {ds : List D} {v : V} {d : D} (i : Nat), RpAll K C G vs ds → Rp K C G v d → RpAll K C G (vs.set i v) (ds.set i d)
  | _, _, _, _, _, .nil, _ => .nil
  | _, _, _, _, 0, .cons _ t, r => .cons r t
  | _, _, _, _, i + 1, .cons q t, r => .cons q (RpAll.set i t r)
theorem Rp.int_of {v : V} {i : Int} (h : Rp K C G v (.int i)) : v = .int i := by cases h; rfl
theorem Rp.bl_of {v : V} {i : Bool} (h : Rp K C G v (.bl i)) : v = .bl i := by cases h; rfl
theorem Rp.str_of {v : V} {i : Str} (h : Rp K C G v (.str i)) : v = .str i := by cases h; rfl
theorem Rp.non_of {v : V} (h : Rp K C G v .non) : v = .non := by cases h; rfl
theorem Rp.tup_of {v : V} {ds : List D} (h : Rp K C G v (.tup ds)) : ∃ a xs, v = .ref a ∧ SqT K G a xs ∧ RpAll K C G xs ds := by
  cases h with
  | tup h r => exact ⟨_, _, rfl, h, r⟩
theorem Rp.lst_of {v : V} {ds : List D} (h : Rp K C G v (.lst ds)) : ∃ a xs, v = .ref a ∧ G a = some (.lst xs) ∧ RpAll K C G xs ds := by
  cases h with
  | lst h r => exact ⟨_, _, rfl, h, r⟩
theorem RpAll.ints : ∀ {vs : List V} {ns : List Int}, RpAll K C G vs (ns.map D.int) → vs = ns.map V.int
  | [], [], _ => rfl
  | _ :: _, [], h => by cases h
  | [], _ :: _, h => by cases h
  | v :: vs, n :: ns, h => by
    cases h with
    | cons r t => rw [r.int_of, RpAll.ints t] <;> rfl
theorem RpAll.of_ints : ∀ (ns : List Int), RpAll K C G (ns.map V.int) (ns.map D.int)
  | [] => .nil
  | n :: ns => .cons (.int n) (RpAll.of_ints ns)
theorem RpAll.bls : ∀ {vs : List V} {ns : List Bool}, RpAll K C G vs (ns.map D.bl) → vs = ns.map V.bl
  | [], [], _ => rfl
  | _ :: _, [], h => by cases h
  | [], _ :: _, h => by cases h
  | v :: vs, n :: ns, h => by
    cases h with
    | cons r t => rw [r.bl_of, RpAll.bls t] <;> rfl
theorem RpAll.strs : ∀ {vs : List V} {ns : List Str}, RpAll K C G vs (ns.map D.str) → vs = ns.map V.str
  | [], [], _ => rfl
  | _ :: _, [], h => by cases h
  | [], _ :: _, h => by cases h
  | v :: vs, n :: ns, h => by
    cases h with
    | cons r t => rw [r.str_of, RpAll.strs t] <;> rfl
end

/-! ### data without objects, as the library's data -/
mutual
def D.py : D → PyData
  | .non => .none
  | .bl b => .bool b
  | .int i => .int i
  | .str x => .str x
  | .tup ds => .tuple (D.pys ds)
  | .lst ds => .list (D.pys ds)
  | .ty _ => .none
  | .pnt _ _ _ _ => .none
def D.pys : List D → List PyData
  | [] => []
  | d :: ds => d.py :: D.pys ds
end
mutual
def D.pl : D → Bool
  | .non => true
  | .bl _ => true
  | .int _ => true
  | .str _ => true
  | .tup ds => D.pls ds
  | .lst ds => D.pls ds
  | .ty _ => false
  | .pnt _ _ _ _ => false
def D.pls : List D → Bool
  | [] => true
  | d :: ds => d.pl && D.pls ds
end
theorem D.pys_map : ∀ ds : List D, D.pys ds = ds.map D.py
  | [] => rfl
  | d :: ds => by rw [D.pys, D.pys_map ds] <;> rfl
theorem D.pls_all : ∀ ds : List D, D.pls ds = ds.all D.pl
  | [] => rfl
  | d :: ds => by rw [D.pls, D.pls_all ds] <;> rfl
section
variable {K : PySem.W.Frag} {C : Addr} {G H : Hp}
mutual
theorem Rp.dp (e : Same G H) : ∀ {v : V} {d : D}, Rp K C G v d → d.pl = true → Dp K H v d.py
  | _, _, .non, _ => by unfold D.py; exact .non
  | _, _, .bl b, _ => by unfold D.py; exact .bl b
  | _, _, .int i, _ => by unfold D.py; exact .int i
  | _, _, .str x, _ => by unfold D.py; exact .str x
  | _, _, .tup h r, p => by unfold D.py; exact .tup (Same.seqT e h) (RpAll.dp e r (by unfold D.pl at p; exact p))
  | _, _, .lst h r, p => by unfold D.py; exact .lst (SqL.of (e _ _ h)) (RpAll.dp e r (by unfold D.pl at p; exact p))
  | _, _, .ty _, p => by unfold D.pl at p; cases p
  | _, _, .pnt _ _ _ _ _ _ _ _ _, p => by unfold D.pl at p; cases p
theorem RpAll.dp (e : Same G H) : ∀ {vs : List V} {ds : List D}, RpAll K C G vs ds → D.pls ds = true → DpAll K H vs (D.pys ds)
  | _, _, .nil, _ => by unfold D.pys; exact .nil
  | _, _, .cons r t, p => by
    unfold D.pls at p
    obtain ⟨p1, p2⟩ := Bool.and_eq_true_iff.mp p
    unfold D.pys
    exact .cons (Rp.dp e r p1) (RpAll.dp e t p2)
end
end
end TA

/-! The data layer, 2: the step from heap to heap, slots, owned objects; expressions. -/
namespace TA
open PySem L2

/-- an owned object's content: a list that may still change, a dict with text keys -/
inductive Ow where
  | l (ds : List D)
  | k (kvs : List (Str × D))
  | ob (kfs : List (Str × D))
abbrev Om := List (Addr × Ow)
/-- a slot: unknown, data, an owned object -/
inductive Sl where
  | no
  | d (x : D)
  | o (a : Addr)

/-- a dict with text keys: the newest entries stand first -/
def RpKv (K : PySem.W.Frag) (C : Addr) (G : Hp) (ks : List (Key × V)) (kvs : List (Str × D)) : Prop :=
  ks.length ≤ kvs.length ∧ ∀ (s : Str) (d : D), kvs.lookup s = some d → ∃ v, valV ks (Sum.inr s : Key) = some v ∧ Rp K C G v d
/-- an object's fields: the newest stand first -/
def RpFs (K : PySem.W.Frag) (C : Addr) (G : Hp) (fs : List (Str × V)) (kfs : List (Str × D)) : Prop :=
  fs.length ≤ kfs.length ∧ fs.lookup ("covers" : Str) = none ∧ ∀ (s : Str) (d : D), kfs.lookup s = some d → ∃ v, fs.lookup s = some v ∧ Rp K C G v d
def OwnAt (K : PySem.W.Frag) (C : Addr) (G H : Hp) (a : Addr) : Ow → Prop
  | .l ds => ∃ xs, H a = some (.lst xs) ∧ RpAll K C G xs ds
  | .k kvs => ∃ ks, H a = some (.dK ks) ∧ RpKv K C G ks kvs
  | .ob kfs => ∃ dx fs, H a = some (.ins C dx fs) ∧ RpFs K C G fs kfs
def SlAt (K : PySem.W.Frag) (C : Addr) (G : Hp) (o : Option (Option V)) : Sl → Prop
  | .no => True
  | .d x => ∃ v, o = some (some v) ∧ Rp K C G v x
  | .o a => o = some (some (.ref a))
def SlR (K : PySem.W.Frag) (C : Addr) (G : Hp) (σ : L2.St) (de : List Sl) : Prop := σ.length = de.length ∧ ∀ (i : Nat) (s : Sl), de[i]? = some s → SlAt K C G σ[i]? s
structure OnR (K : PySem.W.Frag) (C : Addr) (G H : Hp) (om : Om) : Prop where
  at_ : ∀ p ∈ om, G p.1 = none ∧ OwnAt K C G H p.1 p.2
  nd : (om.map Prod.fst).Nodup
structure St0 (K : PySem.W.Frag) (C : Addr) (G H : Hp) (σ : L2.St) (de : List Sl) (om : Om) : Prop where
  sub : Same G H
  sl : SlR K C G σ de
  on : OnR K C G H om
/-- from (G, H) to (G', H'); only the objects at ow may have changed -/
structure Grow (ow : List Addr) (G H G' H' : Hp) : Prop where
  g : Same G G'
  h : ∀ a o, a ∉ ow → H a = some o → H' a = some o
  p : ∀ a, H a ≠ none → H' a ≠ none
  n : ∀ a, a ∉ ow → H a ≠ none → G a = none → G' a = none
  s : Same G' H'

section
variable {K : PySem.W.Frag} {C : Addr} {G H G' H' G1 H1 G2 H2 : Hp} {σ : L2.St} {de : List Sl} {om om' om1 om2 : Om} {ow ow' : List Addr}
theorem RpKv.mono (e : Same G G') {ks : List (Key × V)} {kvs : List (Str × D)} (h : RpKv K C G ks kvs) : RpKv K C G' ks kvs := ⟨h.1, fun s d q => let ⟨v, h1, h2⟩ := h.2 s d q; ⟨v, h1, h2.mono e⟩⟩
theorem RpFs.mono (e : Same G G') {fs : List (Str × V)} {kfs : List (Str × D)} (h : RpFs K C G fs kfs) : RpFs K C G' fs kfs := ⟨h.1, h.2.1, fun s d q => let ⟨v, h1, h2⟩ := h.2.2 s d q; ⟨v, h1, h2.mono e⟩⟩
theorem OwnAt.there {a : Addr} {o : Ow} (h : OwnAt K C G H a o) : H a ≠ none := by
  cases o with
  | l ds =>
    obtain ⟨xs, e, _⟩ := h
    rw [e]
    exact fun z => by cases z
  | k kvs =>
    obtain ⟨xs, e, _⟩ := h
    rw [e]
    exact fun z => by cases z
  | ob kfs =>
    obtain ⟨dx, fs, e, _⟩ := h
    rw [e]
    exact fun z => by cases z
theorem OwnAt.mono {a : Addr} {o : Ow} (h : OwnAt K C G H a o) (e : Same G G') (hh : ∀ u, H a = some u → H' a = some u) : OwnAt K C G' H' a o := by
  cases o with
  | l ds =>
    obtain ⟨xs, e1, r⟩ := h
    exact ⟨xs, hh _ e1, r.mono e⟩
  | k kvs =>
    obtain ⟨xs, e1, r⟩ := h
    exact ⟨xs, hh _ e1, r.mono e⟩
  | ob kfs =>
    obtain ⟨dx, xs, e1, r⟩ := h
    exact ⟨dx, xs, hh _ e1, r.mono e⟩
theorem SlR.mono (h : SlR K C G σ de) (e : Same G G') : SlR K C G' σ de := ⟨h.1, fun i s hi => by
  have q := h.2 i s hi
  cases s with
  | no => trivial
  | d x =>
    obtain ⟨v, h1, h2⟩ := q
    exact ⟨v, h1, h2.mono e⟩
  | o a => exact q⟩
theorem Grow.refl (e : Same G H) : Grow ow G H G H := ⟨fun _ _ h => h, fun _ _ _ h => h, fun _ h => h, fun _ _ _ h => h, e⟩
theorem Grow.trans (a : Grow ow G H G1 H1) (b : Grow ow G1 H1 G2 H2) : Grow ow G H G2 H2 :=
  ⟨fun x o h => b.g x o (a.g x o h), fun x o n h => b.h x o n (a.h x o n h), fun x h => b.p x (a.p x h), fun x n h1 h2 => b.n x n (a.p x h1) (a.n x n h1 h2), b.s⟩
theorem Grow.mono (a : Grow ow G H G1 H1) (h : ∀ x ∈ ow, x ∈ ow') : Grow ow' G H G1 H1 := ⟨a.g, fun x o n e => a.h x o (fun m => n (h x m)) e, a.p, fun x n => a.n x fun m => n (h x m), a.s⟩
theorem Grow.same (a : Grow [] G H G1 H1) : Same H H1 := fun x o e => a.h x o (by simp) e
theorem Grow.weak (a : Grow [] G H G1 H1) : Grow ow G H G1 H1 := a.mono fun _ z => absurd z (by simp)
/-- a new object that is data from now on -/
theorem Grow.new {p : Addr} {o : HO} (e : Same G H) (hn : H p = none) : Grow ow G H (upd G p o) (upd H p o) := by
  have gn : G p = none := by
    cases q : G p with
    | none => rfl
    | some u =>
      rw [e p u q] at hn
      cases hn
  refine ⟨fun a u h => ?_, fun a u _ h => ?_, fun a h => ?_, fun a _ h1 h2 => ?_, fun a u h => ?_⟩
  · rw [upd_ne (ne_of_none h gn)]
    exact h
  · rw [upd_ne (ne_of_none h hn)]
    exact h
  · by_cases z : a = p
    · subst z
      exact absurd hn h
    · rw [upd_ne z]
      exact h
  · by_cases z : a = p
    · subst z
      exact absurd hn h1
    · rw [upd_ne z]
      exact h2
  · by_cases z : a = p
    · subst z
      rw [upd_same] at h ⊢
      exact h
    · rw [upd_ne z] at h ⊢
      exact e a u h
/-- a new object that is not data (yet) -/
theorem Grow.newO {p : Addr} {o : HO} (e : Same G H) (hn : H p = none) : Grow ow G H G (upd H p o) := by
  have gn : G p = none := by
    cases q : G p with
    | none => rfl
    | some u =>
      rw [e p u q] at hn
      cases hn
  refine ⟨fun a u h => h, fun a u _ h => ?_, fun a h => ?_, fun a _ h1 h2 => h2, fun a u h => ?_⟩
  · rw [upd_ne (ne_of_none h hn)]
    exact h
  · by_cases z : a = p
    · subst z
      exact absurd hn h
    · rw [upd_ne z]
      exact h
  · rw [upd_ne (ne_of_none h gn)]
    exact e a u h
theorem OnR.grow (h : OnR K C G H om) (g : Grow [] G H G' H') : OnR K C G' H' om :=
  ⟨fun p hp => ⟨g.n _ (by simp) (h.at_ p hp).2.there (h.at_ p hp).1, (h.at_ p hp).2.mono g.g fun u e => g.same _ _ e⟩, h.nd⟩
theorem St0.grow (h : St0 K C G H σ de om) (g : Grow [] G H G' H') : St0 K C G' H' σ de om := ⟨g.s, h.sl.mono g.g, h.on.grow g⟩
theorem St0.step (h : St0 K C G H σ de om) (g : Grow ow G H G' H') (o : OnR K C G' H' om') : St0 K C G' H' σ de om' := ⟨g.s, h.sl.mono g.g, o⟩
end

/-! ### expressions -/
abbrev ads (om : Om) : List Addr := om.map Prod.fst
section
variable (K : PySem.W.Frag) (C : Addr)
/-- te gives a value for d; the owned objects go from om to om' -/
def ED (te : TE) (de : List Sl) (om : Om) (d : D) (om' : Om) : Prop :=
  ads om' = ads om ∧ ∀ G H σ, St0 K C G H σ de om → ∀ Q : VK, (∀ v G' H', Grow (ads om) G H G' H' → OnR K C G' H' om' → Rp K C G' v d → Q v H') → te σ H Q
/-- te gives a new list, not data yet -/
def EN (te : TE) (de : List Sl) (om : Om) (ds : List D) (om' : Om) : Prop :=
  ads om' = ads om ∧ ∀ G H σ, St0 K C G H σ de om → ∀ Q : VK, (∀ a xs G' H', Grow (ads om) G H G' H' → OnR K C G' H' om' → H a = none → G' a = none → H' a = some (.lst xs) → RpAll K C G' xs ds → Q (.ref a) H') → te σ H Q
def TD (tt : TT) (de : List Sl) (om : Om) (b : Bool) (om' : Om) : Prop :=
  ads om' = ads om ∧ ∀ G H σ, St0 K C G H σ de om → ∀ Q : Bool → Hp → Prop, (∀ G' H', Grow (ads om) G H G' H' → OnR K C G' H' om' → Q b H') → tt σ H Q
def AD (ta : TA) (de : List Sl) (om : Om) (ds : List D) (om' : Om) : Prop :=
  ads om' = ads om ∧ ∀ G H σ, St0 K C G H σ de om → ∀ Q : List V → Hp → Prop, (∀ vs G' H', Grow (ads om) G H G' H' → OnR K C G' H' om' → RpAll K C G' vs ds → Q vs H') → ta σ H Q
/-- an optional part of a slice -/
def PD (to : TO) (de : List Sl) (om : Om) (o : Option Int) (om' : Om) : Prop :=
  ads om' = ads om ∧ ∀ G H σ, St0 K C G H σ de om → ∀ Q : Option Int → Hp → Prop, (∀ G' H', Grow (ads om) G H G' H' → OnR K C G' H' om' → Q o H') → to σ H Q
/-- a two-place operation on values -/
def OD (r : R2) (x y z : D) : Prop :=
  ∀ G H v u, Same G H → Rp K C G v x → Rp K C G u y → ∀ Q : VK, (∀ w G' H', Grow [] G H G' H' → Rp K C G' w z → Q w H') → r v u H Q
/-- a call on values -/
def CD (r : List V → Hp → VK → Prop) (ds : List D) (z : D) : Prop :=
  ∀ G H vs, Same G H → RpAll K C G vs ds → ∀ Q : VK, (∀ w G' H', Grow [] G H G' H' → Rp K C G' w z → Q w H') → r vs H Q
/-- a call on values that gives a new list -/
def CN (r : List V → Hp → VK → Prop) (ds : List D) (zs : List D) : Prop :=
  ∀ G H vs, Same G H → RpAll K C G vs ds → ∀ Q : VK, (∀ a xs G' H', Grow [] G H G' H' → H a = none → G' a = none → H' a = some (.lst xs) → RpAll K C G' xs zs → Q (.ref a) H') → r vs H Q
/-- a promise of a def without effects: R tells what comes of what -/
def spD (R : List D → D → Prop) : Sp := fun vs H Q _ => ∃ G ds d, Same G H ∧ RpAll K C G vs ds ∧ R ds d ∧ ∀ v G' H', Grow [] G H G' H' → Rp K C G' v d → Q v H'
end

section
variable {K : PySem.W.Frag} {C : Addr} {de : List Sl} {om om1 om2 om3 : Om} {ta tb tc te : TE} {x y z d : D} {tt tu : TT}
/-- the slot i is s -/
inductive At : List Sl → Nat → Sl → Prop
  | z {s : Sl} {l : List Sl} : At (s :: l) 0 s
  | s {t s : Sl} {l : List Sl} {i : Nat} : At l i s → At (t :: l) (i + 1) s
theorem At.get : ∀ {l : List Sl} {i : Nat} {s : Sl}, At l i s → l[i]? = some s
  | _, _, _, .z => rfl
  | _, _, _, .s h => by
    rw [List.getElem?_cons_succ]
    exact h.get
theorem ed_var {i : Nat} (h : At de i (.d d)) : ED K C (tVar i) de om d om := ⟨rfl, fun G H σ S Q q => by
  obtain ⟨v, e, r⟩ := S.sl.2 i _ h.get
  exact ⟨v, e, q v G H (.refl S.sub) S.on r⟩⟩
theorem ed_int {i : Int} : ED K C (tC (.int i)) de om (.int i) om := ⟨rfl, fun G H σ S Q q => q _ G H (.refl S.sub) S.on (.int i)⟩
theorem ed_str {i : Str} : ED K C (tC (.str i)) de om (.str i) om := ⟨rfl, fun G H σ S Q q => q _ G H (.refl S.sub) S.on (.str i)⟩
theorem ed_bl {i : Bool} : ED K C (tC (.bl i)) de om (.bl i) om := ⟨rfl, fun G H σ S Q q => q _ G H (.refl S.sub) S.on (.bl i)⟩
theorem ed_non : ED K C (tC .non) de om .non om := ⟨rfl, fun G H σ S Q q => q _ G H (.refl S.sub) S.on .non⟩
/-- a constant of the module that is data whatever the heap -/
theorem ed_c {v : V} (h : ∀ G : Hp, Rp K C G v d) : ED K C (tC v) de om d om := ⟨rfl, fun G H σ S Q q => q _ G H (.refl S.sub) S.on (h G)⟩
theorem ed_is {d' : D} (h : ED K C te de om d om1) (e : d = d') : ED K C te de om d' om1 := e ▸ h
theorem ed_op {r : R2} (ha : ED K C ta de om x om1) (hb : ED K C tb de om1 y om2) (ho : OD K C r x y z) : ED K C (tOp r ta tb) de om z om2 :=
  ⟨hb.1.trans ha.1, fun G H σ S Q q => ha.2 G H σ S _ fun v G1 H1 g1 o1 r1 => hb.2 G1 H1 σ (S.step g1 o1) _ fun u G2 H2 g2 o2 r2 =>
    ho G2 H2 v u g2.s (r1.mono g2.g) r2 Q fun w G3 H3 g3 r3 => q w G3 H3 ((g1.trans (ha.1 ▸ g2)).trans g3.weak) (o2.grow g3) r3⟩
theorem ed_un {r : V → Hp → VK → Prop} (ha : ED K C ta de om x om1)
    (ho : ∀ G H v, Same G H → Rp K C G v x → ∀ Q : VK, (∀ w G' H', Grow [] G H G' H' → Rp K C G' w z → Q w H') → r v H Q) : ED K C (tUn r ta) de om z om1 :=
  ⟨ha.1, fun G H σ S Q q => ha.2 G H σ S _ fun v G1 H1 g1 o1 r1 => ho G1 H1 v g1.s r1 Q fun w G3 H3 g3 r3 => q w G3 H3 (g1.trans g3.weak) (o1.grow g3) r3⟩
theorem ed_neg {i : Int} (ha : ED K C ta de om (.int i) om1) : ED K C (tUn (rU fun i => .int (-i)) ta) de om (.int (-i)) om1 :=
  ed_un ha fun G H v e r Q q => ⟨i, r.int_of, q _ G H (.refl e) (.int _)⟩
theorem ed_and {a b : Bool} (ha : ED K C ta de om (.bl a) om1) (hb : a = true → ED K C tb de om1 (.bl b) om1) : ED K C (tAndV ta tb) de om (.bl (a && b)) om1 :=
  ⟨ha.1, fun G H σ S Q q => ha.2 G H σ S _ fun v G1 H1 g1 o1 r1 => ⟨a, r1.bl_of, by
    cases a with
    | true => exact (hb rfl).2 G1 H1 σ (S.step g1 o1) Q fun u G2 H2 g2 o2 r2 => q u G2 H2 (g1.trans (ha.1 ▸ g2)) o2 r2
    | false => exact q _ G1 H1 g1 o1 (.bl false)⟩⟩
theorem ed_or {a b : Bool} (ha : ED K C ta de om (.bl a) om1) (hb : a = false → ED K C tb de om1 (.bl b) om1) : ED K C (tOrV ta tb) de om (.bl (a || b)) om1 :=
  ⟨ha.1, fun G H σ S Q q => ha.2 G H σ S _ fun v G1 H1 g1 o1 r1 => ⟨a, r1.bl_of, by
    cases a with
    | false => exact (hb rfl).2 G1 H1 σ (S.step g1 o1) Q fun u G2 H2 g2 o2 r2 => q u G2 H2 (g1.trans (ha.1 ▸ g2)) o2 r2
    | true => exact q _ G1 H1 g1 o1 (.bl true)⟩⟩
theorem ed_not {a : Bool} (ha : ED K C ta de om (.bl a) om1) : ED K C (tNotV ta) de om (.bl (!a)) om1 :=
  ⟨ha.1, fun G H σ S Q q => ha.2 G H σ S _ fun v G1 H1 g1 o1 r1 => ⟨a, r1.bl_of, q _ G1 H1 g1 o1 (.bl _)⟩⟩
theorem ed_if {b : Bool} (h : TD K C tt de om b om1) (h1 : b = true → ED K C ta de om1 d om2) (h2 : b = false → ED K C tb de om1 d om2) : ED K C (tIf tt ta tb) de om d om2 := by
  cases b with
  | true =>
    have k := h1 rfl
    exact ⟨k.1.trans h.1, fun G H σ S Q q => h.2 G H σ S _ fun G1 H1 g1 o1 => k.2 G1 H1 σ (S.step g1 o1) Q fun u G2 H2 g2 o2 r2 => q u G2 H2 (g1.trans (h.1 ▸ g2)) o2 r2⟩
  | false =>
    have k := h2 rfl
    exact ⟨k.1.trans h.1, fun G H σ S Q q => h.2 G H σ S _ fun G1 H1 g1 o1 => k.2 G1 H1 σ (S.step g1 o1) Q fun u G2 H2 g2 o2 r2 => q u G2 H2 (g1.trans (h.1 ▸ g2)) o2 r2⟩
/-! tests -/
theorem td_test {b : Bool} (h : ED K C te de om (.bl b) om1) : TD K C (tTest te) de om b om1 :=
  ⟨h.1, fun G H σ S Q q => h.2 G H σ S _ fun v G1 H1 g1 o1 r1 => ⟨b, r1.bl_of, q G1 H1 g1 o1⟩⟩
theorem td_B {b : Bool} (h : ED K C te de om (.bl b) om1) : TD K C (tB te) de om b om1 :=
  ⟨h.1, fun G H σ S Q q => h.2 G H σ S _ fun v G1 H1 g1 o1 r1 => ⟨b, r1.bl_of, q G1 H1 g1 o1⟩⟩
theorem td_yes : TD K C tYes de om true om := ⟨rfl, fun G H σ S Q q => q G H (.refl S.sub) S.on⟩
theorem td_and {a b : Bool} (ha : TD K C tt de om a om1) (hb : a = true → TD K C tu de om1 b om1) : TD K C (tAnd tt tu) de om (a && b) om1 :=
  ⟨ha.1, fun G H σ S Q q => ha.2 G H σ S _ fun G1 H1 g1 o1 => by
    cases a with
    | true => exact (hb rfl).2 G1 H1 σ (S.step g1 o1) Q fun G2 H2 g2 o2 => q G2 H2 (g1.trans (ha.1 ▸ g2)) o2
    | false => exact q G1 H1 g1 o1⟩
theorem td_or {a b : Bool} (ha : TD K C tt de om a om1) (hb : a = false → TD K C tu de om1 b om1) : TD K C (tOr tt tu) de om (a || b) om1 :=
  ⟨ha.1, fun G H σ S Q q => ha.2 G H σ S _ fun G1 H1 g1 o1 => by
    cases a with
    | false => exact (hb rfl).2 G1 H1 σ (S.step g1 o1) Q fun G2 H2 g2 o2 => q G2 H2 (g1.trans (ha.1 ▸ g2)) o2
    | true => exact q G1 H1 g1 o1⟩
theorem td_not {a : Bool} (ha : TD K C tt de om a om1) : TD K C (tNot tt) de om (!a) om1 :=
  ⟨ha.1, fun G H σ S Q q => ha.2 G H σ S _ fun G1 H1 g1 o1 => q G1 H1 g1 o1⟩
theorem td_is {a b : Bool} (h : TD K C tt de om a om1) (e : a = b) : TD K C tt de om b om1 := e ▸ h
/-- a < b < c -/
theorem ed_chain {r r' : R2} {a b : Bool} {w : D} (ha : ED K C ta de om x om1) (hb : ED K C tb de om1 y om1) (h1 : OD K C r x y (.bl a)) (hc : a = true → ED K C tc de om1 w om1) (h2 : a = true → OD K C r' y w (.bl b)) : ED K C (tChain r r' ta tb tc) de om (.bl (a && b)) om1 :=
  ⟨ha.1, fun G H σ S Q q => ha.2 G H σ S _ fun v G1 H1 g1 o1 r1 => hb.2 G1 H1 σ (S.step g1 o1) _ fun u G2 H2 g2 o2 r2 =>
    h1 G2 H2 v u g2.s (r1.mono g2.g) r2 _ fun w G3 H3 g3 r3 => ⟨a, r3.bl_of, by
      have g4 := (g1.trans (ha.1 ▸ g2)).trans (g3.weak (ow := ads om))
      have o4 := o2.grow g3
      cases a with
      | true => exact (hc rfl).2 G3 H3 σ (S.step g4 o4) _ fun w' G5 H5 g5 o5 r5 => h2 rfl G5 H5 u w' g5.s (r2.mono (Same.trans g3.g g5.g)) r5 Q fun w6 G6 H6 g6 r6 => q w6 G6 H6 ((g4.trans (ha.1 ▸ g5)).trans g6.weak) (o5.grow g6) r6
      | false => exact q _ G3 H3 g4 o4 (.bl false)⟩⟩
/-! arguments, displays, calls -/
variable {tr tr2 : TA} {ds es : List D}
theorem ad_nil : AD K C tNil de om [] om := ⟨rfl, fun G H σ S Q q => q [] G H (.refl S.sub) S.on .nil⟩
theorem ad_cons (ha : ED K C ta de om x om1) (hr : AD K C tr de om1 ds om2) : AD K C (tCons ta tr) de om (x :: ds) om2 :=
  ⟨hr.1.trans ha.1, fun G H σ S Q q => ha.2 G H σ S _ fun v G1 H1 g1 o1 r1 => hr.2 G1 H1 σ (S.step g1 o1) _ fun us G2 H2 g2 o2 r2 =>
    q (v :: us) G2 H2 (g1.trans (ha.1 ▸ g2)) o2 (.cons (r1.mono g2.g) r2)⟩
theorem sz_le {n : Nat} (h : n ≤ 100000) : n ≤ sizeLine := Nat.le_trans h (by decide)
theorem sz_lt {n : Nat} (h : n < 100000) : n < sizeLine := Nat.lt_of_lt_of_le h (by decide)
theorem RpAll.new {K : PySem.W.Frag} {C : Addr} {G H : Hp} {p : Addr} {o : HO} {vs : List V} {ds : List D} (e : Same G H) (hn : H p = none) (r : RpAll K C G vs ds) : RpAll K C (upd G p o) vs ds := r.mono (Grow.new (ow := []) (o := o) e hn).g
theorem ed_tup (h : AD K C tr de om ds om1) (hl : ds.length ≤ 100000) : ED K C (tTup tr) de om (.tup ds) om1 :=
  ⟨h.1, fun G H σ S Q q => h.2 G H σ S _ fun vs G1 H1 g1 o1 r1 => ⟨by rw [r1.len]; exact sz_le hl, fun p hp =>
    q (.ref p) _ _ (g1.trans (Grow.new (o := .tup vs) g1.s hp)) (o1.grow (Grow.new g1.s hp)) (.tup (.inl (.inl upd_same)) (r1.new g1.s hp))⟩⟩
theorem en_lst (h : AD K C tr de om ds om1) (hl : ds.length ≤ 100000) : EN K C (tLst tr) de om ds om1 :=
  ⟨h.1, fun G H σ S Q q => h.2 G H σ S _ fun vs G1 H1 g1 o1 r1 => ⟨by rw [r1.len]; exact sz_le hl, fun p hp => by
    have hp0 : H p = none := by
      cases z : H p with
      | none => rfl
      | some u => exact absurd hp (g1.p p (by rw [z]; exact fun y => by cases y))
    have gp : G1 p = none := by
      cases z : G1 p with
      | none => rfl
      | some u =>
        rw [g1.s p u z] at hp
        cases hp
    exact q p vs G1 _ (g1.trans (Grow.newO g1.s hp)) (o1.grow (Grow.newO g1.s hp)) hp0 gp upd_same r1⟩⟩
/-- a new list is data from now on -/
theorem ed_frz (h : EN K C te de om ds om1) : ED K C te de om (.lst ds) om1 :=
  ⟨h.1, fun G H σ S Q q => h.2 G H σ S _ fun a xs G1 H1 g1 o1 hn gn hx r1 => by
    have g2 : Same G1 (upd G1 a (.lst xs)) := fun b o e => by
      rw [upd_ne (ne_of_none e gn)]
      exact e
    refine q (.ref a) (upd G1 a (.lst xs)) H1 ⟨Same.trans g1.g g2, g1.h, g1.p, fun b nb h1 h2 => ?_, fun b o e => ?_⟩ ⟨fun p hp => ⟨?_, ?_⟩, o1.nd⟩ (.lst upd_same (r1.mono g2))
    · have z : b ≠ a := fun z => by
        subst z
        exact h1 hn
      rw [upd_ne z]
      exact g1.n b nb h1 h2
    · by_cases z : b = a
      · subst z
        rw [upd_same] at e
        rw [hx]
        exact e
      · rw [upd_ne z] at e
        exact g1.s b o e
    · have hpa : p.1 ∈ ads om := h.1 ▸ List.mem_map_of_mem hp
      obtain ⟨p0, h0, e0⟩ := List.mem_map.mp hpa
      have z : p.1 ≠ a := fun z => by
        have q1 := (S.on.at_ p0 h0).2.there
        rw [e0, z] at q1
        exact q1 hn
      rw [upd_ne z]
      exact (o1.at_ p hp).1
    · exact (o1.at_ p hp).2.mono g2 fun _ e => e⟩
theorem ed_cb {r : List V → Hp → VK → Prop} (h : AD K C tr de om ds om1) (hc : CD K C r ds z) : ED K C (tCB r tr) de om z om1 :=
  ⟨h.1, fun G H σ S Q q => h.2 G H σ S _ fun vs G1 H1 g1 o1 r1 => hc G1 H1 vs g1.s r1 Q fun w G2 H2 g2 r2 => q w G2 H2 (g1.trans g2.weak) (o1.grow g2) r2⟩
theorem en_cb {r : List V → Hp → VK → Prop} {zs : List D} (h : AD K C tr de om ds om1) (hc : CN K C r ds zs) : EN K C (tCB r tr) de om zs om1 :=
  ⟨h.1, fun G H σ S Q q => h.2 G H σ S _ fun vs G1 H1 g1 o1 r1 => hc G1 H1 vs g1.s r1 Q fun a xs G2 H2 g2 hn gn hx r2 => by
    have hp0 : H a = none := by
      cases z : H a with
      | none => rfl
      | some u => exact absurd hn (g1.p a (by rw [z]; exact fun y => by cases y))
    exact q a xs G2 H2 (g1.trans g2.weak) (o1.grow g2) hp0 gn hx r2⟩
theorem ed_call {R : List D → D → Prop} {E : XK} (h : AD K C tr de om ds om1) (hr : R ds d) : ED K C (tCall (spD K C R) [] E tr) de om d om1 :=
  ⟨h.1, fun G H σ S Q q => h.2 G H σ S _ fun vs G1 H1 g1 o1 r1 => ⟨G1, ds, d, g1.s, by rw [List.append_nil]; exact r1, hr, fun v G2 H2 g2 r2 => q v G2 H2 (g1.trans g2.weak) (o1.grow g2) r2⟩⟩
theorem pd_none : PD K C tNoPart de om none om := ⟨rfl, fun G H σ S Q q => q G H (.refl S.sub) S.on⟩
theorem pd_some {i : Int} (h : ED K C te de om (.int i) om1) : PD K C (tPart te) de om (some i) om1 :=
  ⟨h.1, fun G H σ S Q q => h.2 G H σ S _ fun v G1 H1 g1 o1 r1 => ⟨i, r1.int_of, q G1 H1 g1 o1⟩⟩
end
end TA

/-! The data layer, 3: operators, subscripts, slices, built-in calls. -/
namespace TA
open PySem L2

section
variable {K : PySem.W.Frag} {C : Addr} {de : List Sl} {om om1 om2 om3 : Om} {ta tb tc te : TE} {x y z d : D}
theorem CMul.l {i j : Int} (h : -1000000 ≤ i ∧ i ≤ 1000000) : CMul i j := .inl ⟨by omega, by omega⟩
theorem CMul.r {i j : Int} (h : -1000000 ≤ j ∧ j ≤ 1000000) : CMul i j := .inr ⟨by omega, by omega⟩
theorem od_I0 {g : Int → Int → V} {i j : Int} (h : ∀ G : Hp, Rp K C G (g i j) z) : OD K C (rI0 g) (.int i) (.int j) z :=
  fun G H v u e r1 r2 Q q => ⟨i, j, r1.int_of, r2.int_of, q _ G H (.refl e) (h G)⟩
theorem od_I {P : Int → Int → Prop} {g : Int → Int → V} {i j : Int} (hc : P i j) (h : ∀ G : Hp, Rp K C G (g i j) z) : OD K C (rI P g) (.int i) (.int j) z :=
  fun G H v u e r1 r2 Q q => ⟨i, j, r1.int_of, r2.int_of, hc, q _ G H (.refl e) (h G)⟩
abbrev rAd : R2 := rI0 fun i j => .int (i + j)
abbrev rSu : R2 := rI0 fun i j => .int (i - j)
abbrev rMu : R2 := rI CMul fun i j => .int (i * j)
abbrev rFd : R2 := rI CDiv fun i j => .int (i / j)
abbrev rMo : R2 := rI (fun _ j => 0 < j) fun i j => .int (i % j)
abbrev rPw : R2 := rI CPow fun i j => .int (i ^ j.toNat)
abbrev rL : R2 := rI0 fun i j => .bl (decide (i < j))
abbrev rLe : R2 := rI0 fun i j => .bl (decide (i ≤ j))
abbrev rG : R2 := rI0 fun i j => .bl (decide (j < i))
abbrev rGE : R2 := rI0 fun i j => .bl (decide (j ≤ i))
theorem od_add {i j : Int} : OD K C rAd (.int i) (.int j) (.int (i + j)) := od_I0 fun _ => .int _
theorem od_sub {i j : Int} : OD K C rSu (.int i) (.int j) (.int (i - j)) := od_I0 fun _ => .int _
theorem od_mul {i j : Int} (h : CMul i j) : OD K C rMu (.int i) (.int j) (.int (i * j)) := od_I h fun _ => .int _
theorem od_fdiv {i j : Int} (h : CDiv i j) : OD K C rFd (.int i) (.int j) (.int (i / j)) := od_I h fun _ => .int _
theorem od_mod {i j : Int} (h : 0 < j) : OD K C rMo (.int i) (.int j) (.int (i % j)) := od_I h fun _ => .int _
theorem od_pow {i j : Int} (h : CPow i j) : OD K C rPw (.int i) (.int j) (.int (i ^ j.toNat)) := od_I h fun _ => .int _
theorem od_sq {i : Int} (h : i.natAbs < 2 ^ 64) : OD K C rPw (.int i) (.int 2) (.int (i * i)) := od_I ⟨by decide, by decide, h⟩ fun _ => by
  have e : i ^ (2 : Int).toNat = i * i := by
    show i ^ 2 = i * i
    rw [show (2 : Nat) = 1 + 1 from rfl, Int.pow_succ, Int.pow_succ, Int.pow_zero, Int.one_mul]
  show Rp K C _ (V.int (i ^ (2 : Int).toNat)) _
  rw [e]
  exact .int _
theorem od_lt {i j : Int} : OD K C rL (.int i) (.int j) (.bl (decide (i < j))) := od_I0 fun _ => .bl _
theorem od_le {i j : Int} : OD K C rLe (.int i) (.int j) (.bl (decide (i ≤ j))) := od_I0 fun _ => .bl _
theorem od_gt {i j : Int} : OD K C rG (.int i) (.int j) (.bl (decide (j < i))) := od_I0 fun _ => .bl _
theorem od_ge {i j : Int} : OD K C rGE (.int i) (.int j) (.bl (decide (j ≤ i))) := od_I0 fun _ => .bl _
theorem od_eqI {i j : Int} : OD K C rEq (.int i) (.int j) (.bl (decide (i = j))) := fun G H v u e r1 r2 Q q => by
  obtain rfl := r1.int_of
  obtain rfl := r2.int_of
  refine ⟨rfl, q _ G H (.refl e) ?_⟩
  rw [dec_int, Bool.beq_eq_decide_eq]
  exact .bl _
theorem od_neI {i j : Int} : OD K C rNe (.int i) (.int j) (.bl (!decide (i = j))) := fun G H v u e r1 r2 Q q => by
  obtain rfl := r1.int_of
  obtain rfl := r2.int_of
  refine ⟨rfl, q _ G H (.refl e) ?_⟩
  rw [dec_int, Bool.beq_eq_decide_eq]
  exact .bl _
theorem od_eqS {i j : Str} : OD K C rEq (.str i) (.str j) (.bl (decide (i = j))) := fun G H v u e r1 r2 Q q => by
  obtain rfl := r1.str_of
  obtain rfl := r2.str_of
  refine ⟨rfl, q _ G H (.refl e) ?_⟩
  rw [dec_str, Bool.beq_eq_decide_eq]
  exact .bl _
theorem od_neS {i j : Str} : OD K C rNe (.str i) (.str j) (.bl (!decide (i = j))) := fun G H v u e r1 r2 Q q => by
  obtain rfl := r1.str_of
  obtain rfl := r2.str_of
  refine ⟨rfl, q _ G H (.refl e) ?_⟩
  rw [dec_str, Bool.beq_eq_decide_eq]
  exact .bl _
theorem od_notB {i j : Bool} : OD K C rNotB (.bl i) (.bl j) (.bl (!decide (i = j))) := fun G H v u e r1 r2 Q q => ⟨i, j, r1.bl_of, r2.bl_of, q _ G H (.refl e) (.bl _)⟩
/-! deep == -/
theorem od_eqD (hx : x.pl = true) (hy : y.pl = true) (sx : SeqAt.shaped x.py = true) (sy : SeqAt.shaped y.py = true) : OD K C (rEqD K) x y (.bl (PyData.eqv x.py y.py)) :=
  fun G H v u e r1 r2 Q q => ⟨x.py, y.py, r1.dp e hx, r2.dp e hy, sx, sy, q _ G H (.refl e) (.bl _)⟩
theorem od_neD (hx : x.pl = true) (hy : y.pl = true) (sx : SeqAt.shaped x.py = true) (sy : SeqAt.shaped y.py = true) : OD K C (rNeD K) x y (.bl (!PyData.eqv x.py y.py)) :=
  fun G H v u e r1 r2 Q q => ⟨x.py, y.py, r1.dp e hx, r2.dp e hy, sx, sy, q _ G H (.refl e) (.bl _)⟩
theorem od_inD {ds : List D} (hx : x.pl = true) (hy : D.pls ds = true) (sx : SeqAt.shaped x.py = true) (sy : SeqAt.shaped (.list (D.pys ds)) = true) : OD K C (rInD K) x (.lst ds) (.bl ((D.pys ds).any fun z => PyData.eqv z x.py)) :=
  fun G H v u e r1 r2 Q q => ⟨x.py, D.pys ds, r1.dp e hx, (by
    have h := r2.dp (d := .lst ds) e (by unfold D.pl; exact hy)
    unfold D.py at h
    exact h), sx, sy, q _ G H (.refl e) (.bl _)⟩
/-- a point: a pair of ints -/
abbrev dP (p : Int × Int) : D := .tup [.int p.1, .int p.2]
theorem pt_shaped (a b : Int) : SeqAt.shaped (D.py (.tup [.int a, .int b])) = true := by
  simp [D.py, D.pys, SeqAt.shaped, PyData.canLay0, PyData.canLayAll0, PyData.depth, PyData.depthAll]
theorem pt_eqv (a b c d : Int) : PyData.eqv (D.py (.tup [.int a, .int b])) (D.py (.tup [.int c, .int d])) = (decide (a = c) && decide (b = d)) := by
  simp [D.py, D.pys, PyData.eqv, PyData.eqvAll, Bool.beq_eq_decide_eq]
theorem od_eqP {p q : Int × Int} : OD K C (rEqD K) (dP p) (dP q) (.bl (decide (p = q))) := by
  have h := od_eqD (K := K) (C := C) (x := dP p) (y := dP q) (by simp [D.pl, D.pls]) (by simp [D.pl, D.pls]) (pt_shaped _ _) (pt_shaped _ _)
  rw [pt_eqv] at h
  have e : decide (p = q) = (decide (p.1 = q.1) && decide (p.2 = q.2)) := by
    rw [Bool.eq_iff_iff]
    simp [Prod.ext_iff]
  rw [e]
  exact h
theorem od_neP {p q : Int × Int} : OD K C (rNeD K) (dP p) (dP q) (.bl (!decide (p = q))) := by
  have h := od_neD (K := K) (C := C) (x := dP p) (y := dP q) (by simp [D.pl, D.pls]) (by simp [D.pl, D.pls]) (pt_shaped _ _) (pt_shaped _ _)
  rw [pt_eqv] at h
  have e : decide (p = q) = (decide (p.1 = q.1) && decide (p.2 = q.2)) := by
    rw [Bool.eq_iff_iff]
    simp [Prod.ext_iff]
  rw [e]
  exact h
/-! subscripts -/
theorem atI_len {α β : Type} {xs : List α} {ys : List β} (hl : xs.length = ys.length) {i : Int} {v : β} (h : atI ys i = some v) : ∃ j : Nat, ys[j]? = some v ∧ ∀ u, xs[j]? = some u → atI xs i = some u := by
  unfold atI at h ⊢
  rw [hl]
  cases e : ixN ys.length i with
  | none =>
    rw [e] at h
    cases h
  | some j =>
    rw [e] at h
    exact ⟨j, h, fun u hu => hu⟩
theorem od_ixT {ds : List D} {i : Int} (h : atI ds i = some d) : OD K C (rIxT K) (.tup ds) (.int i) d := fun G H v u e r1 r2 Q q => by
  obtain ⟨a, xs, rfl, hx, r⟩ := r1.tup_of
  obtain ⟨j, h1, h2⟩ := atI_len r.len h
  obtain ⟨w, h3, h4⟩ := r.get h1
  exact ⟨a, xs, i, w, rfl, r2.int_of, Same.seqT e hx, h2 w h3, q w G H (.refl e) h4⟩
theorem od_ixL {ds : List D} {i : Int} (h : atI ds i = some d) : OD K C (rIxL K) (.lst ds) (.int i) d := fun G H v u e r1 r2 Q q => by
  obtain ⟨a, xs, rfl, hx, r⟩ := r1.lst_of
  obtain ⟨j, h1, h2⟩ := atI_len r.len h
  obtain ⟨w, h3, h4⟩ := r.get h1
  exact ⟨a, xs, i, w, rfl, r2.int_of, SqL.of (e _ _ hx), h2 w h3, q w G H (.refl e) h4⟩
theorem od_ixS {s : Str} {i : Int} {c : Nat} (hl : s.length ≤ 100000) (h : atI s.cps.toList i = some c) : OD K C rIxS (.str s) (.int i) (.str ⟨#[c]⟩) := fun G H v u e r1 r2 Q q =>
  ⟨s, i, c, r1.str_of, r2.int_of, sz_le hl, h, q _ G H (.refl e) (.str _)⟩
theorem ix0 {α : Type} {a : α} {l : List α} : atI (a :: l) 0 = some a := atI_nat (j := 0) rfl
theorem ix1 {α : Type} {a b : α} {l : List α} : atI (a :: b :: l) 1 = some b := atI_nat (j := 1) rfl
theorem ix2 {α : Type} {a b c : α} {l : List α} : atI (a :: b :: c :: l) 2 = some c := atI_nat (j := 2) rfl
theorem ix3 {α : Type} {a b c d : α} {l : List α} : atI (a :: b :: c :: d :: l) 3 = some d := atI_nat (j := 3) rfl
theorem ix4 {α : Type} {a b c d e : α} {l : List α} : atI (a :: b :: c :: d :: e :: l) 4 = some e := atI_nat (j := 4) rfl
theorem atI_of {α : Type} {l : List α} {z : Int} {j : Nat} {v : α} (e : z = (j : Int)) (h : l[j]? = some v) : atI l z = some v := by
  rw [e]
  exact atI_nat h
theorem atI_neg1 {α : Type} {l : List α} {v : α} (h : l[l.length - 1]? = some v) : atI l (-1) = some v := by
  have hl : 0 < l.length := by
    have := (List.getElem?_eq_some_iff.mp h).1
    omega
  unfold atI ixN
  rw [if_neg (by omega), if_pos (by omega)]
  have e : (-1 + (l.length : Int)).toNat = l.length - 1 := by omega
  show l[(-1 + (l.length : Int)).toNat]? = some v
  rw [e]
  exact h
/-! membership -/
theorem od_inT {ds : List D} {b : Bool} (h : ∀ G vs v, RpAll K C G vs ds → Rp K C G v x → flatV v = true ∧ vs.all flatV = true ∧ inV v vs = b) : OD K C (rIn K false) x (.tup ds) (.bl b) := fun G H v u e r1 r2 Q q => by
  obtain ⟨a, xs, rfl, hx, r⟩ := r2.tup_of
  obtain ⟨h1, h2, h3⟩ := h G xs v r r1
  refine ⟨a, xs, rfl, .inr (Same.seqT e hx), h1, h2, q _ G H (.refl e) ?_⟩
  rw [if_neg Bool.false_ne_true, h3]
  exact .bl _
theorem od_inL {ds : List D} {b : Bool} (h : ∀ G vs v, RpAll K C G vs ds → Rp K C G v x → flatV v = true ∧ vs.all flatV = true ∧ inV v vs = b) : OD K C (rIn K false) x (.lst ds) (.bl b) := fun G H v u e r1 r2 Q q => by
  obtain ⟨a, xs, rfl, hx, r⟩ := r2.lst_of
  obtain ⟨h1, h2, h3⟩ := h G xs v r r1
  refine ⟨a, xs, rfl, .inl (SqL.of (e _ _ hx)), h1, h2, q _ G H (.refl e) ?_⟩
  rw [if_neg Bool.false_ne_true, h3]
  exact .bl _
theorem in_strs {G : Hp} {s : Str} {ss : List Str} {v : V} {vs : List V} (r : RpAll K C G vs (ss.map D.str)) (r1 : Rp K C G v (.str s)) : flatV v = true ∧ vs.all flatV = true ∧ inV v vs = decide (s ∈ ss) := by
  rw [r.strs, r1.str_of]
  refine ⟨rfl, List.all_eq_true.mpr fun z hz => ?_, ?_⟩
  · obtain ⟨t, _, rfl⟩ := List.mem_map.mp hz
    rfl
  · unfold inV
    rw [List.any_map, Bool.eq_iff_iff, List.any_eq_true, decide_eq_true_eq]
    constructor
    · rintro ⟨t, ht, e⟩
      have e2 : (decide (t = s)) = true := by
        have : eqV (V.str t) (V.str s) = true := e
        simpa [eqV] using this
      rw [← of_decide_eq_true e2]
      exact ht
    · intro h
      exact ⟨s, h, by simp [eqV]⟩
theorem od_inTs {s : Str} {ss : List Str} : OD K C (rIn K false) (.str s) (.tup (ss.map D.str)) (.bl (decide (s ∈ ss))) := od_inT fun _ _ _ r r1 => in_strs r r1
theorem od_inLs {s : Str} {ss : List Str} : OD K C (rIn K false) (.str s) (.lst (ss.map D.str)) (.bl (decide (s ∈ ss))) := od_inL fun _ _ _ r r1 => in_strs r r1
theorem od_inS {c : Nat} {s : Str} : OD K C rInS (.str ⟨#[c]⟩) (.str s) (.bl (decide (c ∈ s.cps.toList))) := fun G H v u e r1 r2 Q q => ⟨c, s, r1.str_of, r2.str_of, q _ G H (.refl e) (.bl _)⟩
theorem od_ninS {c : Nat} {s : Str} : OD K C rNotInS (.str ⟨#[c]⟩) (.str s) (.bl (!decide (c ∈ s.cps.toList))) := fun G H v u e r1 r2 Q q => ⟨c, s, r1.str_of, r2.str_of, q _ G H (.refl e) (.bl _)⟩
/-! joins, order -/
def rAddS2 : R2 := fun x y H Q => ∃ i j, x = .str i ∧ y = .str j ∧ i.length + j.length ≤ sizeLine ∧ Q (.str (i ++ j)) H
def rLtS : R2 := fun x y H Q => ∃ i j, x = .str i ∧ y = .str j ∧ Q (.bl (decide (i.cps.toList < j.cps.toList))) H
theorem od_addS {s t : Str} (h : s.length + t.length ≤ 100000) : OD K C rAddS2 (.str s) (.str t) (.str (s ++ t)) := fun G H v u e r1 r2 Q q => ⟨s, t, r1.str_of, r2.str_of, sz_le h, q _ G H (.refl e) (.str _)⟩
theorem od_ltS {s t : Str} : OD K C rLtS (.str s) (.str t) (.bl (decide (s.cps.toList < t.cps.toList))) := fun G H v u e r1 r2 Q q => ⟨s, t, r1.str_of, r2.str_of, q _ G H (.refl e) (.bl _)⟩
theorem od_ltP {p q : Int × Int} : OD K C (rLtT K) (dP p) (dP q) (.bl (HT.lexLt [p.1, p.2] [q.1, q.2])) := fun G H v u e r1 r2 Q k => by
  obtain ⟨a, xs, rfl, hx, r⟩ := r1.tup_of
  obtain ⟨b, ys, rfl, hy, s⟩ := r2.tup_of
  have ex : xs = [p.1, p.2].map V.int := RpAll.ints (ns := [p.1, p.2]) r
  have ey : ys = [q.1, q.2].map V.int := RpAll.ints (ns := [q.1, q.2]) s
  subst ex ey
  exact ⟨a, b, [p.1, p.2], [q.1, q.2], rfl, rfl, Same.seqT e hx, Same.seqT e hy, k _ G H (.refl e) (.bl _)⟩
theorem od_catA {ds es : List D} (h : ds.length + es.length ≤ 100000) : OD K C (rCatA K) (.tup ds) (.tup es) (.tup (ds ++ es)) := fun G H v u e r1 r2 Q q => by
  obtain ⟨a, xs, rfl, hx, r⟩ := r1.tup_of
  obtain ⟨b, ys, rfl, hy, s⟩ := r2.tup_of
  refine ⟨a, b, xs, ys, rfl, rfl, Same.seqT e hx, Same.seqT e hy, by rw [r.len, s.len]; exact sz_le h, fun z => ?_, fun _ z => ?_, fun _ _ p hp => ?_⟩
  · subst z
    cases r
    exact q _ G H (.refl e) (.tup hy s)
  · subst z
    cases s
    rw [List.append_nil] at q
    exact q _ G H (.refl e) (.tup hx r)
  · exact q _ _ _ (Grow.new e hp) (.tup (.inl (.inl upd_same)) ((r.append s).new e hp))
theorem on_cat {ds es : List D} (h : ds.length + es.length ≤ 100000) : OD K C rCat (.lst ds) (.lst es) (.lst (ds ++ es)) := fun G H v u e r1 r2 Q q => by
  obtain ⟨a, xs, rfl, hx, r⟩ := r1.lst_of
  obtain ⟨b, ys, rfl, hy, s⟩ := r2.lst_of
  refine ⟨a, b, xs, ys, rfl, rfl, e _ _ hx, e _ _ hy, by rw [r.len, s.len]; exact sz_le h, fun p hp => ?_⟩
  exact q _ _ _ (Grow.new e hp) (.lst upd_same ((r.append s).new e hp))
/-! slices -/
theorem cut_rp {G : Hp} {xs : List V} {ds : List D} {lo hi : Option Int} (r : RpAll K C G xs ds) : RpAll K C G (cutV xs lo hi) ((ds.drop (HT.sIx ds.length 0 lo)).take (HT.sIx ds.length ds.length hi - HT.sIx ds.length 0 lo)) := by
  unfold cutV
  rw [r.len]
  exact (r.drop _).take _
theorem ed_slT {tl th : TO} {ds : List D} {lo hi : Option Int} (h : ED K C te de om (.tup ds) om1) (h1 : PD K C tl de om1 lo om1) (h2 : PD K C th de om1 hi om1) :
    ED K C (tSl (rSlA K) te tl th) de om (.tup ((ds.drop (HT.sIx ds.length 0 lo)).take (HT.sIx ds.length ds.length hi - HT.sIx ds.length 0 lo))) om1 :=
  ⟨h.1, fun G H σ S Q q => h.2 G H σ S _ fun v G1 H1 g1 o1 r1 => h1.2 G1 H1 σ (S.step g1 o1) _ fun G2 H2 g2 o2 => by
    have g12 := g1.trans (h.1 ▸ g2)
    refine h2.2 G2 H2 σ (S.step g12 o2) _ fun G3 H3 g3 o3 => ?_
    have g13 := g12.trans (h.1 ▸ g3)
    obtain ⟨a, xs, rfl, hx, r⟩ := (r1.mono (Same.trans g2.g g3.g)).tup_of
    refine ⟨a, xs, rfl, Same.seqT g3.s hx, fun z => ?_, fun _ p hp => ?_⟩
    · refine q _ G3 H3 g13 o3 ?_
      rw [r.len] at z
      rw [z.1, z.2, List.drop_zero, Nat.sub_zero, List.take_length]
      exact .tup hx r
    · exact q _ _ _ (g13.trans (Grow.new g3.s hp)) (o3.grow (Grow.new g3.s hp)) (.tup (.inl (.inl upd_same)) ((cut_rp r).new g3.s hp))⟩
/-- t[k:] -/
theorem cut_from (ds : List D) (k : Nat) : (ds.drop (HT.sIx ds.length 0 (some (k : Int)))).take (HT.sIx ds.length ds.length none - HT.sIx ds.length 0 (some (k : Int))) = ds.drop k := by
  rw [HT.sIx_none, HT.sIx_nat]
  by_cases h : k ≤ ds.length
  · rw [Nat.min_eq_left h]
    exact List.take_of_length_le (by rw [List.length_drop]; exact Nat.le_refl _)
  · rw [Nat.min_eq_right (by omega), List.drop_of_length_le (Nat.le_refl _), List.drop_of_length_le (by omega)]
    exact List.take_nil
/-- t[:k] -/
theorem cut_to (ds : List D) (k : Nat) : (ds.drop (HT.sIx ds.length 0 none)).take (HT.sIx ds.length ds.length (some (k : Int)) - HT.sIx ds.length 0 none) = ds.take k := by
  rw [HT.sIx_none, HT.sIx_nat, List.drop_zero, Nat.sub_zero]
  by_cases h : k ≤ ds.length
  · rw [Nat.min_eq_left h]
  · rw [Nat.min_eq_right (by omega), List.take_of_length_le (Nat.le_refl _), List.take_of_length_le (by omega)]
theorem ed_slF {tl th : TO} {ds : List D} {k : Nat} (h : ED K C te de om (.tup ds) om1) (h1 : PD K C tl de om1 (some (k : Int)) om1) (h2 : PD K C th de om1 none om1) : ED K C (tSl (rSlA K) te tl th) de om (.tup (ds.drop k)) om1 := by
  have q := ed_slT h h1 h2
  rw [cut_from] at q
  exact q
theorem ed_slTo {tl th : TO} {ds : List D} {k : Nat} (h : ED K C te de om (.tup ds) om1) (h1 : PD K C tl de om1 none om1) (h2 : PD K C th de om1 (some (k : Int)) om1) : ED K C (tSl (rSlA K) te tl th) de om (.tup (ds.take k)) om1 := by
  have q := ed_slT h h1 h2
  rw [cut_to] at q
  exact q
/-- l[k:] of a list that is data -/
theorem en_slF {tl th : TO} {ds : List D} {k : Nat} (h : ED K C te de om (.lst ds) om1) (h1 : PD K C tl de om1 (some (k : Int)) om1) (h2 : PD K C th de om1 none om1) : ED K C (tSl (rSlL K) te tl th) de om (.lst (ds.drop k)) om1 :=
  ⟨h.1, fun G H σ S Q q => h.2 G H σ S _ fun v G1 H1 g1 o1 r1 => h1.2 G1 H1 σ (S.step g1 o1) _ fun G2 H2 g2 o2 => by
    have g12 := g1.trans (h.1 ▸ g2)
    refine h2.2 G2 H2 σ (S.step g12 o2) _ fun G3 H3 g3 o3 => ?_
    have g13 := g12.trans (h.1 ▸ g3)
    obtain ⟨a, xs, rfl, hx, r⟩ := (r1.mono (Same.trans g2.g g3.g)).lst_of
    refine ⟨a, xs, rfl, SqL.of (g3.s _ _ hx), fun p hp => ?_⟩
    have r2 := cut_rp (lo := some (k : Int)) (hi := none) r
    rw [cut_from] at r2
    exact q _ _ _ (g13.trans (Grow.new g3.s hp)) (o3.grow (Grow.new g3.s hp)) (.lst upd_same (r2.new g3.s hp))⟩
/-- l[::-1] -/
theorem ed_rev {ds : List D} (h : ED K C te de om (.lst ds) om1) : ED K C (tRevL K te) de om (.lst ds.reverse) om1 :=
  ⟨h.1, fun G H σ S Q q => h.2 G H σ S _ fun v G1 H1 g1 o1 r1 => by
    obtain ⟨a, xs, rfl, hx, r⟩ := r1.lst_of
    refine ⟨a, xs, rfl, SqL.of (g1.s _ _ hx), fun p hp => ?_⟩
    exact q _ _ _ (g1.trans (Grow.new g1.s hp)) (o1.grow (Grow.new g1.s hp)) (.lst upd_same (r.reverse.new g1.s hp))⟩
/-! built-in calls -/
def rLenA (K : PySem.W.Frag) : List V → Hp → VK → Prop := fun xs H Q => ∃ x n, xs = [x] ∧ LenV K x H n ∧ Q (.int n) H
def rAbs : List V → Hp → VK → Prop := fun xs H Q => ∃ i, xs = [.int i] ∧ Q (.int (if i < 0 then -i else i)) H
def rMin2 : List V → Hp → VK → Prop := fun xs H Q => ∃ i j, xs = [.int i, .int j] ∧ Q (.int (if j < i then j else i)) H
def rInt1 : List V → Hp → VK → Prop := fun xs H Q => (∃ i, xs = [.int i] ∧ Q (.int i) H) ∨ ∃ k, xs = [.bl k] ∧ Q (.int (if k then 1 else 0)) H
def rStr1 : List V → Hp → VK → Prop := fun xs H Q => ∃ i, xs = [.int i] ∧ i.natAbs.log2 < 1920 ∧ Q (.str (toString i)) H
def rTupOf (K : PySem.W.Frag) : List V → Hp → VK → Prop := fun xs H Q => ∃ p ys, xs = [.ref p] ∧ ((SqL K H p ys ∧ ∀ l, H l = none → Q (.ref l) (upd H l (.tup ys))) ∨ (SqT K H p ys ∧ Q (.ref p) H))
variable {X : Cx}
theorem call_lenA : CallR X (.builtin "len") (rLenA X.K) := call_len
theorem call_absA : CallR X (.builtin "abs") rAbs := call_abs
theorem call_min2A (hc : X.calm = true) : CallR X (.builtin "min") rMin2 := call_min2 hc
theorem call_int1A : CallR X (.type "int") rInt1 := call_int1
theorem call_str1A : CallR X (.type "str") rStr1 := call_str_int
theorem call_tupOf : CallR X (.type "tuple") (rTupOf X.K) := call_tuple_of
theorem RpAll.one_of {G : Hp} {vs : List V} {d : D} (h : RpAll K C G vs [d]) : ∃ v, vs = [v] ∧ Rp K C G v d := by
  cases h with
  | cons r t =>
    cases t
    exact ⟨_, rfl, r⟩
theorem RpAll.two_of {G : Hp} {vs : List V} {d e : D} (h : RpAll K C G vs [d, e]) : ∃ v u, vs = [v, u] ∧ Rp K C G v d ∧ Rp K C G u e := by
  cases h with
  | cons r t =>
    obtain ⟨u, rfl, r2⟩ := t.one_of
    exact ⟨_, _, rfl, r, r2⟩
theorem cd_lenT {ds : List D} : CD K C (rLenA K) [.tup ds] (.int ds.length) := fun G H vs e r Q q => by
  obtain ⟨v, rfl, r1⟩ := r.one_of
  obtain ⟨a, xs, rfl, hx, r2⟩ := r1.tup_of
  exact ⟨_, ds.length, rfl, .inr ⟨xs, Same.seqT e hx, r2.len.symm⟩, q _ G H (.refl e) (.int _)⟩
theorem cd_lenL {ds : List D} : CD K C (rLenA K) [.lst ds] (.int ds.length) := fun G H vs e r Q q => by
  obtain ⟨v, rfl, r1⟩ := r.one_of
  obtain ⟨a, xs, rfl, hx, r2⟩ := r1.lst_of
  exact ⟨_, ds.length, rfl, .inl ⟨xs, SqL.of (e _ _ hx), r2.len.symm⟩, q _ G H (.refl e) (.int _)⟩
theorem cd_lenS {s : Str} (h : s.length ≤ 100000) : CD K C (rLenA K) [.str s] (.int s.length) := fun G H vs e r Q q => by
  obtain ⟨v, rfl, r1⟩ := r.one_of
  obtain rfl := r1.str_of
  exact ⟨_, s.length, rfl, ⟨sz_le h, rfl⟩, q _ G H (.refl e) (.int _)⟩
theorem cd_abs {i : Int} : CD K C rAbs [.int i] (.int (if i < 0 then -i else i)) := fun G H vs e r Q q => by
  obtain ⟨v, rfl, r1⟩ := r.one_of
  obtain rfl := r1.int_of
  exact ⟨i, rfl, q _ G H (.refl e) (.int _)⟩
theorem cd_min2 {i j : Int} : CD K C rMin2 [.int i, .int j] (.int (if j < i then j else i)) := fun G H vs e r Q q => by
  obtain ⟨v, u, rfl, r1, r2⟩ := r.two_of
  obtain rfl := r1.int_of
  obtain rfl := r2.int_of
  exact ⟨i, j, rfl, q _ G H (.refl e) (.int _)⟩
theorem cd_int1 {i : Int} : CD K C rInt1 [.int i] (.int i) := fun G H vs e r Q q => by
  obtain ⟨v, rfl, r1⟩ := r.one_of
  obtain rfl := r1.int_of
  exact .inl ⟨i, rfl, q _ G H (.refl e) (.int _)⟩
theorem cd_str1 {i : Int} (h : i.natAbs.log2 < 1920) : CD K C rStr1 [.int i] (.str (toString i)) := fun G H vs e r Q q => by
  obtain ⟨v, rfl, r1⟩ := r.one_of
  obtain rfl := r1.int_of
  exact ⟨i, rfl, h, q _ G H (.refl e) (.str _)⟩
theorem cd_tupL {ds : List D} : CD K C (rTupOf K) [.lst ds] (.tup ds) := fun G H vs e r Q q => by
  obtain ⟨v, rfl, r1⟩ := r.one_of
  obtain ⟨a, xs, rfl, hx, r2⟩ := r1.lst_of
  exact ⟨a, xs, rfl, .inl ⟨SqL.of (e _ _ hx), fun l hl => q _ _ _ (Grow.new e hl) (.tup (.inl (.inl upd_same)) (r2.new e hl))⟩⟩
theorem cd_all {bs : List Bool} : CD K C (rAll K) [.lst (bs.map D.bl)] (.bl (bs.all id)) := fun G H vs e r Q q => by
  obtain ⟨v, rfl, r1⟩ := r.one_of
  obtain ⟨a, xs, rfl, hx, r2⟩ := r1.lst_of
  rw [r2.bls] at hx
  exact ⟨a, bs, rfl, SqL.of (e _ _ hx), q _ G H (.refl e) (.bl _)⟩
theorem cd_any {bs : List Bool} : CD K C (rAny K) [.lst (bs.map D.bl)] (.bl (bs.any id)) := fun G H vs e r Q q => by
  obtain ⟨v, rfl, r1⟩ := r.one_of
  obtain ⟨a, xs, rfl, hx, r2⟩ := r1.lst_of
  rw [r2.bls] at hx
  exact ⟨a, bs, rfl, SqL.of (e _ _ hx), q _ G H (.refl e) (.bl _)⟩
/-- isinstance(x, T), T a built-in type -/
def tyD : D → Option String
  | .non => some "NoneType"
  | .bl _ => some "bool"
  | .int _ => some "int"
  | .str _ => some "str"
  | .tup _ => some "tuple"
  | .lst _ => some "list"
  | _ => none
theorem ty_ok {G H : Hp} {v : V} {t : String} (e : Same G H) (r : Rp K C G v d) (ht : tyD d = some t) : TyX K H v (.type t) := by
  cases r with
  | non => cases ht; exact .base .non
  | bl b => cases ht; exact .base (.bl b)
  | int b => cases ht; exact .base (.int b)
  | str b => cases ht; exact .base (.str b)
  | ty n => cases ht
  | tup h _ =>
    cases ht
    rcases Same.seqT e h with (h | ⟨o, h⟩) | ⟨o, its, n, hk, hc, _⟩
    · exact .base (.tup h)
    · exact .fTuple h
    · exact .kTuple hk hc
  | lst h _ => cases ht; exact .base (.lst (e _ _ h))
  | pnt _ _ _ _ _ _ _ _ _ => cases ht
theorem cd_isi {n t : String} {b : Bool} (ht : tyD d = some t) (hk : kitB t n = some b) : CD K C (rIsi K) [d, .ty n] (.bl b) := fun G H vs e r Q q => by
  obtain ⟨v, u, rfl, r1, r2⟩ := r.two_of
  have e2 : u = .ty n := by
    cases r2
    rfl
  subst e2
  exact ⟨v, .ty n, .type t, .type n, b, rfl, .ty n, ty_ok e r1 ht, kit_ty hk, q _ G H (.refl e) (.bl _)⟩
theorem ed_ty {n : String} : ED K C (tC (.ty n)) de om (.ty n) om := ed_c fun _ => .ty n
end
end TA

/-! The data layer, 4: what is walked, comprehensions, statements, loops, defs. -/
namespace TA
open PySem L2
open RZ (iZipA pi_zipA ItzT)

section
variable (K : PySem.W.Frag) (C : Addr)
/-- J gives the items ds, one a turn, whatever is added to the heap -/
structure DW (G0 : Hp) (J : It) (ds : List D) : Prop where
  goes : ∀ i G H, i < ds.length → Same G0 G → Same G H → J.go i H
  stops : ∀ G H, Same G0 G → Same G H → J.stop ds.length H
  yields : ∀ i G H x H', i < ds.length → Same G0 G → Same G H → J.yld i H x H' → ∃ G' d, Grow [] G H G' H' ∧ ds[i]? = some d ∧ Rp K C G' x d
def IL (wi : TI) (de : List Sl) (om : Om) (ds : List D) (om' : Om) : Prop :=
  ads om' = ads om ∧ ∀ G H σ, St0 K C G H σ de om → ∀ R : It → Hp → Prop, (∀ J G' H', Grow (ads om) G H G' H' → OnR K C G' H' om' → DW K C G' J ds → R J H') → wi σ H R
/-- a target: the slots ts are set -/
def GD (g : TG) (d : D) (de de' : List Sl) (ts : List Nat) : Prop :=
  ∀ G H σ v, Same G H → SlR K C G σ de → Rp K C G v d → ∀ Q : L2.St → Hp → Prop, (∀ σ', SlR K C G σ' de' → (∀ vs, (∀ i ∈ ts, i ∈ vs) → wipe σ' vs = wipe σ vs) → Q σ' H) → g v σ H Q
def GDs (g : TGs) (ds : List D) (de de' : List Sl) (ts : List Nat) : Prop :=
  ∀ G H σ vs, Same G H → SlR K C G σ de → RpAll K C G vs ds → ∀ Q : L2.St → Hp → Prop, (∀ σ', SlR K C G σ' de' → (∀ vs, (∀ i ∈ ts, i ∈ vs) → wipe σ' vs = wipe σ vs) → Q σ' H) → g vs σ H Q
end

/-- de with s at i -/
inductive SetAt : List Sl → Nat → Sl → List Sl → Prop
  | z {t s : Sl} {l : List Sl} : SetAt (t :: l) 0 s (s :: l)
  | s {t s : Sl} {l l' : List Sl} {i : Nat} : SetAt l i s l' → SetAt (t :: l) (i + 1) s (t :: l')
theorem SetAt.eq : ∀ {l l' : List Sl} {i : Nat} {s : Sl}, SetAt l i s l' → l' = l.set i s ∧ i < l.length
  | _, _, _, _, .z => ⟨rfl, Nat.zero_lt_succ _⟩
  | _, _, _, _, .s h => ⟨by rw [List.set_cons_succ, h.eq.1], Nat.succ_lt_succ h.eq.2⟩
/-- the left knows all that the right knows -/
inductive Wk : List Sl → List Sl → Prop
  | nil : Wk [] []
  | no {s : Sl} {l l' : List Sl} : Wk l l' → Wk (s :: l) (.no :: l')
  | eq {s : Sl} {l l' : List Sl} : Wk l l' → Wk (s :: l) (s :: l')
theorem Wk.refl : ∀ l : List Sl, Wk l l
  | [] => .nil
  | _ :: l => .eq (Wk.refl l)
theorem Wk.get : ∀ {l l' : List Sl}, Wk l l' → l.length = l'.length ∧ ∀ (i : Nat) (s : Sl), l'[i]? = some s → s = .no ∨ l[i]? = some s
  | _, _, .nil => ⟨rfl, fun i s h => .inr h⟩
  | _, _, .no h => ⟨congrArg (· + 1) h.get.1, fun i s e => by
    cases i with
    | zero =>
      simp only [List.getElem?_cons_zero, Option.some.injEq] at e
      exact .inl e.symm
    | succ i =>
      rw [List.getElem?_cons_succ] at e
      rw [List.getElem?_cons_succ]
      exact h.get.2 i s e⟩
  | _, _, .eq h => ⟨congrArg (· + 1) h.get.1, fun i s e => by
    cases i with
    | zero => exact .inr e
    | succ i =>
      rw [List.getElem?_cons_succ] at e
      rw [List.getElem?_cons_succ]
      exact h.get.2 i s e⟩
/-- de with the slots vs forgotten -/
def wipD (de : List Sl) : List Nat → List Sl
  | [] => de
  | v :: vs => (wipD de vs).set v .no

section
variable {K : PySem.W.Frag} {C : Addr} {G G' H H' G0 : Hp} {σ : L2.St} {de de' de1 de2 : List Sl} {om om' om1 om2 : Om} {ds es : List D} {d x : D} {te ta tb : TE} {tr : TA} {wi : TI} {g : TG} {gs : TGs} {ts us : List Nat}
theorem SlR.wk (h : SlR K C G σ de) (w : Wk de de') : SlR K C G σ de' := ⟨h.1.trans w.get.1, fun i s e => by
  rcases w.get.2 i s e with z | z
  · subst z
    trivial
  · exact h.2 i s z⟩
theorem SlR.set {i : Nat} {v : V} (h : SlR K C G σ de) (r : Rp K C G v d) (hs : SetAt de i (.d d) de') : SlR K C G (σ.set i (some v)) de' := by
  obtain ⟨e, hi⟩ := hs.eq
  subst e
  refine ⟨by rw [List.length_set, List.length_set]; exact h.1, fun j s e => ?_⟩
  by_cases z : i = j
  · subst z
    rw [List.getElem?_set_self hi] at e
    cases e
    rw [List.getElem?_set_self (by rw [h.1]; exact hi)]
    exact ⟨v, rfl, r⟩
  · rw [List.getElem?_set_ne z] at e
    rw [List.getElem?_set_ne z]
    exact h.2 j s e
theorem SlR.setO {i : Nat} {a : Addr} (h : SlR K C G σ de) (hs : SetAt de i (.o a) de') : SlR K C G (σ.set i (some (.ref a))) de' := by
  obtain ⟨e, hi⟩ := hs.eq
  subst e
  refine ⟨by rw [List.length_set, List.length_set]; exact h.1, fun j s e => ?_⟩
  by_cases z : i = j
  · subst z
    rw [List.getElem?_set_self hi] at e
    cases e
    rw [List.getElem?_set_self (by rw [h.1]; exact hi)]
    exact rfl
  · rw [List.getElem?_set_ne z] at e
    rw [List.getElem?_set_ne z]
    exact h.2 j s e
theorem wipD_length (de : List Sl) : ∀ vs : List Nat, (wipD de vs).length = de.length
  | [] => rfl
  | v :: vs => by unfold wipD; rw [List.length_set, wipD_length de vs]
theorem SlR.wip (h : SlR K C G σ de) : ∀ vs : List Nat, SlR K C G (wipe σ vs) (wipD de vs)
  | [] => h
  | v :: vs => by
    have ih := h.wip vs
    unfold wipe wipD
    refine ⟨by rw [List.length_set, List.length_set]; exact ih.1, fun j s e => ?_⟩
    by_cases z : v = j
    · subst z
      by_cases hv : v < (wipD de vs).length
      · rw [List.getElem?_set_self hv] at e
        cases e
        trivial
      · rw [List.getElem?_eq_none (by rw [List.length_set]; omega)] at e
        cases e
    · rw [List.getElem?_set_ne z] at e
      rw [List.getElem?_set_ne z]
      exact ih.2 j s e
theorem wipe_set : ∀ {vs : List Nat} {σ : L2.St} {i : Nat} {x : Option V}, i ∈ vs → wipe (σ.set i x) vs = wipe σ vs
  | [], _, _, _, h => by simp at h
  | v :: vs, σ, i, x, h => by
    unfold wipe
    by_cases z : i ∈ vs
    · rw [wipe_set z]
    · have e : i = v := by
        rcases List.mem_cons.mp h with h | h
        · exact h
        · exact absurd h z
      subst e
      have key : ∀ {vs : List Nat} {σ : L2.St}, i ∉ vs → wipe (σ.set i x) vs = (wipe σ vs).set i x := by
        intro vs
        induction vs with
        | nil => intro _ _; rfl
        | cons w ws ih =>
          intro σ hn
          simp only [List.mem_cons, not_or] at hn
          unfold wipe
          rw [ih hn.2, List.set_comm _ _ hn.1]
      rw [key z, List.set_set]
theorem wipe_twice (σ : L2.St) : ∀ {vs ws : List Nat}, (∀ i ∈ vs, i ∈ ws) → wipe (wipe σ vs) ws = wipe σ ws
  | [], _, _ => rfl
  | v :: vs, ws, h => by
    rw [show wipe σ (v :: vs) = (wipe σ vs).set v none from rfl, wipe_set (h v (by simp)), wipe_twice σ fun i hi => h i (by simp [hi])]
/-! targets -/
theorem gd_name {i : Nat} (h : SetAt de i (.d d) de') : GD K C (gName i) d de de' [i] := fun G H σ v e S r Q q => q _ (S.set r h) fun vs hv => wipe_set (hv i (by simp))
theorem gds_nil : GDs K C gNil [] de de [] := fun G H σ vs e S r Q q => by
  cases r
  exact ⟨rfl, q _ S fun _ _ => rfl⟩
theorem gds_cons (h1 : GD K C g d de de1 ts) (h2 : GDs K C gs ds de1 de2 us) : GDs K C (gCons g gs) (d :: ds) de de2 (ts ++ us) := fun G H σ vs e S r Q q => by
  cases r with
  | cons r t =>
    refine ⟨_, _, rfl, h1 G H σ _ e S r _ fun σ1 S1 w1 => h2 G H σ1 _ e S1 t _ fun σ2 S2 w2 => q σ2 S2 fun vs hv => ?_⟩
    rw [w2 vs fun i hi => hv i (by simp [hi]), w1 vs fun i hi => hv i (by simp [hi])]
theorem gd_tup {n : Nat} (h : GDs K C gs ds de de' ts) (hn : ds.length = n) : GD K C (gTup K n gs) (.tup ds) de de' ts := fun G H σ v e S r Q q => by
  obtain ⟨a, xs, rfl, hx, r2⟩ := r.tup_of
  exact ⟨a, xs, rfl, Same.seqT e hx, by rw [r2.len]; exact hn, h G H σ xs e S r2 Q q⟩
/-! what is walked -/
theorem il_tup (h : ED K C te de om (.tup ds) om1) : IL K C (iTup K te) de om ds om1 :=
  ⟨h.1, fun G H σ S R q => h.2 G H σ S _ fun v G1 H1 g1 o1 r1 => by
    obtain ⟨a, xs, rfl, hx, r⟩ := r1.tup_of
    have W := walk_tup (K := K) (a := a) (xs := xs)
    refine ⟨a, rfl, ⟨xs, Same.seqT g1.s hx⟩, q _ G1 H1 g1 o1 ⟨fun i G2 H2 hi e1 e2 => W.goes i H2 (by rw [r.len]; exact hi) (Same.seqT e2 (Same.seqT e1 hx)), fun G2 H2 e1 e2 => r.len ▸ W.stops H2 (Same.seqT e2 (Same.seqT e1 hx)), fun i G2 H2 y H3 hi e1 e2 hy => ?_⟩⟩
    obtain ⟨rfl, hy2⟩ := W.yields i H2 y H3 (by rw [r.len]; exact hi) (Same.seqT e2 (Same.seqT e1 hx)) hy
    obtain ⟨d, h1, h2⟩ := r.getV hy2
    exact ⟨G2, d, .refl e2, h1, h2.mono e1⟩⟩
theorem il_lst (h : ED K C te de om (.lst ds) om1) : IL K C (iList K te) de om ds om1 :=
  ⟨h.1, fun G H σ S R q => h.2 G H σ S _ fun v G1 H1 g1 o1 r1 => by
    obtain ⟨a, xs, rfl, hx, r⟩ := r1.lst_of
    have W := walk_list (K := K) (a := a) (xs := xs)
    refine ⟨a, rfl, ⟨xs, SqL.of (g1.s _ _ hx)⟩, q _ G1 H1 g1 o1 ⟨fun i G2 H2 hi e1 e2 => W.goes i H2 (by rw [r.len]; exact hi) (SqL.of (e2 _ _ (e1 _ _ hx))), fun G2 H2 e1 e2 => r.len ▸ W.stops H2 (SqL.of (e2 _ _ (e1 _ _ hx))), fun i G2 H2 y H3 hi e1 e2 hy => ?_⟩⟩
    obtain ⟨rfl, hy2⟩ := W.yields i H2 y H3 (by rw [r.len]; exact hi) (SqL.of (e2 _ _ (e1 _ _ hx))) hy
    obtain ⟨d, h1, h2⟩ := r.getV hy2
    exact ⟨G2, d, .refl e2, h1, h2.mono e1⟩⟩
def rngD (lo : Int) (n : Nat) : List D := (List.range n).map fun i => .int (lo + (i : Nat))
theorem rngD_len {lo : Int} {n : Nat} : (rngD lo n).length = n := by unfold rngD; simp
theorem rngD_get {lo : Int} {n i : Nat} (h : i < n) : (rngD lo n)[i]? = some (.int (lo + (i : Nat))) := by
  unfold rngD
  rw [List.getElem?_map, List.getElem?_range h]
  rfl
theorem il_r1 {n : Int} (h : AD K C tr de om [.int n] om1) (h0 : n ≤ 100000) (h1 : -100000 ≤ n) : IL K C (iRng1 tr) de om (rngD 0 n.toNat) om1 :=
  ⟨h.1, fun G H σ S R q => h.2 G H σ S _ fun vs G1 H1 g1 o1 r1 => by
    obtain ⟨v, rfl, r⟩ := r1.one_of
    obtain rfl := r.int_of
    have W := walk_range (lo := 0) (n := n.toNat)
    refine ⟨n, rfl, by omega, by omega, q _ G1 H1 g1 o1 ⟨fun i G2 H2 hi e1 e2 => W.goes i H2 (by rw [rngD_len] at hi; exact hi) trivial, fun G2 H2 e1 e2 => by rw [rngD_len]; exact W.stops H2 trivial, fun i G2 H2 y H3 hi e1 e2 hy => ?_⟩⟩
    rw [rngD_len] at hi
    obtain ⟨rfl, hy2⟩ := W.yields i H2 y H3 hi trivial hy
    exact ⟨G2, _, .refl e2, rngD_get hi, hy2 ▸ .int _⟩⟩
theorem il_r2 {lo hi : Int} (h : AD K C tr de om [.int lo, .int hi] om1) (h0 : -100000 ≤ lo ∧ lo ≤ 100000 ∧ -100000 ≤ hi ∧ hi ≤ 100000) : IL K C (iRng2 tr) de om (rngD lo (hi - lo).toNat) om1 :=
  ⟨h.1, fun G H σ S R q => h.2 G H σ S _ fun vs G1 H1 g1 o1 r1 => by
    obtain ⟨v, u, rfl, r, r'⟩ := r1.two_of
    obtain rfl := r.int_of
    obtain rfl := r'.int_of
    have W := walk_range (lo := lo) (n := (hi - lo).toNat)
    refine ⟨lo, hi, rfl, ⟨by omega, by omega, by omega, by omega⟩, q _ G1 H1 g1 o1 ⟨fun i G2 H2 hi e1 e2 => W.goes i H2 (by rw [rngD_len] at hi; exact hi) trivial, fun G2 H2 e1 e2 => by rw [rngD_len]; exact W.stops H2 trivial, fun i G2 H2 y H3 hi e1 e2 hy => ?_⟩⟩
    rw [rngD_len] at hi
    obtain ⟨rfl, hy2⟩ := W.yields i H2 y H3 hi trivial hy
    exact ⟨G2, _, .refl e2, rngD_get hi, hy2 ▸ .int _⟩⟩
/-- range(a, b, -1) -/
def dwnD (hi : Int) (n : Nat) : List D := (List.range n).map fun i => .int (hi - (i : Nat))
theorem dwnD_len {lo : Int} {n : Nat} : (dwnD lo n).length = n := by unfold dwnD; simp
theorem dwnD_get {lo : Int} {n i : Nat} (h : i < n) : (dwnD lo n)[i]? = some (.int (lo - (i : Nat))) := by
  unfold dwnD
  rw [List.getElem?_map, List.getElem?_range h]
  rfl
theorem RpAll.three_of {G : Hp} {vs : List V} {d e f : D} (h : RpAll K C G vs [d, e, f]) : ∃ v u w, vs = [v, u, w] ∧ Rp K C G v d ∧ Rp K C G u e ∧ Rp K C G w f := by
  cases h with
  | cons r t =>
    obtain ⟨u, w, rfl, r2, r3⟩ := t.two_of
    exact ⟨_, _, _, rfl, r, r2, r3⟩
theorem il_r3 {up lo : Int} (h : AD K C tr de om [.int up, .int lo, .int (-1)] om1) (h0 : -100000 ≤ lo ∧ lo ≤ 100000 ∧ -100000 ≤ up ∧ up ≤ 100000) : IL K C (iRng3 tr) de om (dwnD up (up - lo).toNat) om1 :=
  ⟨h.1, fun G H σ S R q => h.2 G H σ S _ fun vs G1 H1 g1 o1 r1 => by
    obtain ⟨v, u, w, rfl, r, r', r''⟩ := r1.three_of
    obtain rfl := r.int_of
    obtain rfl := r'.int_of
    obtain rfl := r''.int_of
    have W := walk_rangeC (lo := up) (c := -1) (n := (up - lo).toNat)
    refine ⟨up, lo, -1, (up - lo).toNat, rfl, RgC.neg (by omega) (by omega) (by omega) (by omega), q _ G1 H1 g1 o1 ⟨fun i G2 H2 hi e1 e2 => W.goes i H2 (by rw [dwnD_len] at hi; exact hi) trivial, fun G2 H2 e1 e2 => by rw [dwnD_len]; exact W.stops H2 trivial, fun i G2 H2 y H3 hi e1 e2 hy => ?_⟩⟩
    rw [dwnD_len] at hi
    obtain ⟨rfl, hy2⟩ := W.yields i H2 y H3 hi trivial hy
    refine ⟨G2, _, .refl e2, dwnD_get hi, ?_⟩
    have ez : up + ((i : Nat) : Int) * -1 = up - ((i : Nat) : Int) := by omega
    have hy3 : y = V.int (up + ((i : Nat) : Int) * -1) := hy2
    rw [hy3, ez]
    exact .int _⟩
/-- a text, sign by sign -/
def sgnD (s : Str) : List D := s.cps.toList.map fun c => .str ⟨#[c]⟩
theorem il_str {s : Str} (h : ED K C te de om (.str s) om1) : IL K C (iStr te) de om (sgnD s) om1 :=
  ⟨h.1, fun G H σ S R q => h.2 G H σ S _ fun v G1 H1 g1 o1 r1 => by
    obtain rfl := r1.str_of
    have W := walk_str (z := s)
    have el : (sgnD s).length = s.cps.size := by unfold sgnD; simp
    refine ⟨s, rfl, q _ G1 H1 g1 o1 ⟨fun i G2 H2 hi e1 e2 => W.goes i H2 (by rw [el] at hi; exact hi) trivial, fun G2 H2 e1 e2 => by rw [el]; exact W.stops H2 trivial, fun i G2 H2 y H3 hi e1 e2 hy => ?_⟩⟩
    rw [el] at hi
    obtain ⟨rfl, c, h1, rfl⟩ := W.yields i H2 y H3 hi trivial hy
    refine ⟨G2, _, .refl e2, ?_, .str _⟩
    unfold sgnD
    rw [List.getElem?_map, Array.getElem?_toList, h1]
    rfl⟩
/-- zip of two tuples: pairs -/
def zipD (ds es : List D) : List D := (ds.zip es).map fun p => .tup [p.1, p.2]
theorem zipD_get {ds es : List D} {i : Nat} {d e : D} (h1 : ds[i]? = some d) (h2 : es[i]? = some e) : (zipD ds es)[i]? = some (.tup [d, e]) := by
  unfold zipD
  rw [List.getElem?_map, List.getElem?_zip_eq_some.mpr (show ds[i]? = some (d, e).1 ∧ es[i]? = some (d, e).2 from ⟨h1, h2⟩)] <;> rfl
theorem zipD_len {ds es : List D} : (zipD ds es).length = min ds.length es.length := by unfold zipD; simp
theorem il_zipT (h : AD K C tr de om [.tup ds, .tup es] om1) : IL K C (iZipA K tr) de om (zipD ds es) om1 :=
  ⟨h.1, fun G H σ S R q => h.2 G H σ S _ fun vs G1 H1 g1 o1 r1 => by
    obtain ⟨v, u, rfl, r, r'⟩ := r1.two_of
    obtain ⟨a, xs, rfl, hx, rx⟩ := r.tup_of
    obtain ⟨b, ys, rfl, hy, ry⟩ := r'.tup_of
    refine ⟨a, b, xs, ys, rfl, .inr ⟨Same.seqT g1.s hx, Same.seqT g1.s hy, q _ G1 H1 g1 o1 ⟨fun i G2 H2 hi e1 e2 => ?_, fun G2 H2 e1 e2 => ?_, fun i G2 H2 y H3 hi e1 e2 hyl => ?_⟩⟩⟩
    · rw [zipD_len] at hi
      have h1 : i < xs.length := by rw [rx.len]; omega
      have h2 : i < ys.length := by rw [ry.len]; omega
      exact ⟨xs, ys, xs[i], ys[i], Same.seqT e2 (Same.seqT e1 hx), Same.seqT e2 (Same.seqT e1 hy), by simp [h1], by simp [h2]⟩
    · rw [zipD_len]
      refine ⟨xs, ys, Same.seqT e2 (Same.seqT e1 hx), Same.seqT e2 (Same.seqT e1 hy), ?_⟩
      rw [rx.len, ry.len]
      omega
    · obtain ⟨T, x, z, rfl, hT, rfl, f1, f2⟩ := hyl
      obtain ⟨d, h1, h2⟩ := rx.getV (f1 xs (Same.seqT e2 (Same.seqT e1 hx)))
      obtain ⟨d2, h3, h4⟩ := ry.getV (f2 ys (Same.seqT e2 (Same.seqT e1 hy)))
      exact ⟨_, _, Grow.new e2 hT, zipD_get h1 h3, .tup (.inl (.inl upd_same)) (RpAll.new e2 hT (.cons (h2.mono e1) (.one (h4.mono e1))))⟩⟩
/-! comprehensions -/
/-- the items kept: bf says which, el what -/
def gen (bf : Nat → Bool) (el : Nat → D) : Nat → List D
  | 0 => []
  | n + 1 => gen bf el n ++ (if bf n = true then [el n] else [])
theorem gen_len (bf : Nat → Bool) (el : Nat → D) : ∀ n, (gen bf el n).length ≤ n
  | 0 => Nat.le_refl _
  | n + 1 => by
    have h := gen_len bf el n
    unfold gen
    rw [List.length_append]
    split
    · simp only [List.length_cons, List.length_nil]
      omega
    · simp only [List.length_nil]
      omega
theorem gen_all (el : Nat → D) : ∀ n, gen (fun _ => true) el n = (List.range n).map el
  | 0 => rfl
  | n + 1 => by
    unfold gen
    rw [gen_all el n, if_pos rfl, List.range_succ, List.map_append]
    rfl
theorem Grow.updO {ow : List Addr} {A : Addr} {o : HO} (g : Grow ow G H G' H') (hA : H A = none) (gA : G' A = none) : Grow ow G H G' (upd H' A o) :=
  ⟨g.g, fun b u hb e => by
    rw [upd_ne (ne_of_none e hA)]
    exact g.h b u hb e, fun b hb => by
    by_cases z : b = A
    · subst z
      exact absurd hA hb
    · rw [upd_ne z]
      exact g.p b hb, g.n, fun b u e => by
    rw [upd_ne (ne_of_none e gA)]
    exact g.s b u e⟩
theorem OnR.updO {A : Addr} {o : HO} (h : OnR K C G H om) (hA : A ∉ ads om) : OnR K C G (upd H A o) om :=
  ⟨fun p hp => ⟨(h.at_ p hp).1, (h.at_ p hp).2.mono (fun _ _ e => e) fun u e => by
    have z : p.1 ≠ A := fun z => by
      rw [← z] at hA
      exact hA (List.mem_map_of_mem hp)
    rw [upd_ne z]
    exact e⟩, h.nd⟩
theorem en_lc {tt : TT} {vs : List Nat} (h : IL K C wi de om ds om1) (bf : Nat → Bool) (el : Nat → D) (omf : Nat → Om) (h0 : omf 0 = om1) (hl : ds.length ≤ 50000)
    (ht : ∀ (i : Nat) (d : D), ds[i]? = some d → ∃ de2 ts, GD K C g d (wipD de vs) de2 ts ∧ (∀ j ∈ ts, j ∈ vs) ∧ TD K C tt de2 (omf i) (bf i) (omf i) ∧ if bf i = true then ED K C te de2 (omf i) (el i) (omf (i + 1)) else omf (i + 1) = omf i) :
    EN K C (tLc wi g tt te vs) de om (gen bf el ds.length) (omf ds.length) := by
  have hads : ∀ i, i ≤ ds.length → ads (omf i) = ads om1 := by
    intro i
    induction i with
    | zero =>
      intro _
      rw [h0]
    | succ i ih =>
      intro hi
      obtain ⟨de2, ts, _, _, _, h5⟩ := ht i ds[i] (List.getElem?_eq_getElem (by omega))
      cases hb : bf i with
      | true =>
        rw [hb, if_pos rfl] at h5
        exact h5.1.trans (ih (by omega))
      | false =>
        rw [hb, if_neg Bool.false_ne_true] at h5
        rw [h5]
        exact ih (by omega)
  refine ⟨(hads _ (Nat.le_refl _)).trans h.1, fun G H σ S Q q => h.2 G H σ S _ fun J G1 H1 g1 o1 W A hA => ?_⟩
  have S1 := S.step g1 o1
  have hA0 : H A = none := by
    cases z : H A with
    | none => rfl
    | some u => exact absurd hA (g1.p A (by rw [z]; exact fun y => by cases y))
  have gA1 : G1 A = none := by
    cases z : G1 A with
    | none => rfl
    | some u =>
      rw [g1.s A u z] at hA
      cases hA
  have nA : A ∉ ads om := fun z => by
    obtain ⟨p0, h0', e0⟩ := List.mem_map.mp z
    have q1 := (S.on.at_ p0 h0').2.there
    rw [e0] at q1
    exact q1 hA0
  -- the word: at turn i
  refine ⟨fun i m H2 => i ≤ ds.length ∧ m = ds.length - i ∧ ∃ G2 acc, Grow (ads om) G1 H1 G2 H2 ∧ OnR K C G2 H2 (omf i) ∧ G2 A = none ∧ H2 A = some (.lst acc) ∧ RpAll K C G2 acc (gen bf el i),
    ⟨ds.length, Nat.zero_le _, by omega, G1, [], Grow.newO S1.sub hA, by rw [h0]; exact o1.grow (Grow.newO S1.sub hA), gA1, upd_same, .nil⟩, ?_⟩
  rintro i m H2 ⟨hi, rfl, G2, acc, g2, o2, gA2, hacc, racc⟩
  have S2 : SlR K C G2 σ de := S1.sl.mono g2.g
  by_cases hlt : i < ds.length
  · refine .inr ⟨W.goes i G2 H2 hlt g2.g g2.s, fun H3 => i + 1 ≤ ds.length ∧ ∃ G3 acc, Grow (ads om) G1 H1 G3 H3 ∧ OnR K C G3 H3 (omf (i + 1)) ∧ G3 A = none ∧ H3 A = some (.lst acc) ∧ RpAll K C G3 acc (gen bf el (i + 1)), ?_, ?_⟩
    · rintro H3 ⟨h1, G3, acc3, h2⟩
      exact ⟨ds.length - (i + 1), by omega, h1, rfl, G3, acc3, h2⟩
    · intro x H3 hy
      obtain ⟨G3, d, g3, hd, rx⟩ := W.yields i G2 H2 x H3 hlt g2.g g2.s hy
      obtain ⟨de2, ts, h3, h4, h5, h6⟩ := ht i d hd
      refine h3 G3 H3 (wipe σ vs) x g3.s ((S2.mono g3.g).wip vs) rx _ fun σ2 S3 w3 => ?_
      refine ⟨by rw [w3 vs h4, wipe_twice σ fun i hi => hi], ?_⟩
      have o3 := o2.grow g3
      have e3 : ads (omf i) = ads om := (hads i (by omega)).trans h.1
      have gA3 : G3 A = none := g3.n A (by simp) (by rw [hacc]; exact fun z => by cases z) gA2
      have hA3 : H3 A = some (.lst acc) := g3.same A _ hacc
      refine h5.2 G3 H3 σ2 ⟨g3.s, S3, o3⟩ _ fun G4 H4 g4 o4 => ?_
      have g4' := (g2.trans (g3.weak (ow := ads om))).trans (e3 ▸ g4)
      have hA4 : H4 A = some (.lst acc) := g4.h A _ (e3 ▸ nA) hA3
      have gA4 : G4 A = none := g4.n A (e3 ▸ nA) (by rw [hA3]; exact fun z => by cases z) gA3
      cases hb : bf i with
      | true =>
        rw [hb, if_pos rfl] at h6
        show te σ2 H4 _
        refine h6.2 G4 H4 σ2 ⟨g4.s, S3.mono g4.g, o4⟩ _ fun v G5 H5 g5 o5 r5 => ?_
        have g5' := g4'.trans (e3 ▸ g5)
        have hA5 : H5 A = some (.lst acc) := g5.h A _ (e3 ▸ nA) hA4
        have gA5 : G5 A = none := g5.n A (e3 ▸ nA) (by rw [hA4]; exact fun z => by cases z) gA4
        have rl : RpAll K C G5 acc (gen bf el i) := racc.mono (Same.trans g3.g (Same.trans g4.g g5.g))
        refine ⟨acc, hA5, ?_, by omega, G5, acc ++ [v], g5'.updO hA gA5, o5.updO (h6.1.trans e3 ▸ nA), gA5, upd_same, ?_⟩
        · rw [rl.len]
          have := gen_len bf el i
          exact sz_lt (by omega)
        · unfold gen
          rw [hb, if_pos rfl]
          exact rl.append (.one r5)
      | false =>
        rw [hb, if_neg Bool.false_ne_true] at h6
        show i + 1 ≤ ds.length ∧ _
        refine ⟨hlt, G4, acc, g4', by rw [h6]; exact o4, gA4, hA4, ?_⟩
        unfold gen
        rw [hb, if_neg Bool.false_ne_true, List.append_nil]
        exact racc.mono (Same.trans g3.g g4.g)
  · have e : i = ds.length := by omega
    subst e
    exact .inl ⟨W.stops G2 H2 g2.g g2.s, q A acc G2 H2 (g1.trans g2) o2 hA0 gA2 hacc racc⟩
end
end TA

/-! The data layer, 5: statements, loops, defs. -/
namespace TA
open PySem L2

/-- the entry of a def: data, heap, the objects that it may change -/
structure Ent where
  G0 : Hp
  H0 : Hp
  ow : List Addr
structure Rel (Z : Ent) (K : PySem.W.Frag) (C : Addr) (G H : Hp) (σ : L2.St) (de : List Sl) (om : Om) : Prop where
  st : St0 K C G H σ de om
  gr : Grow Z.ow Z.G0 Z.H0 G H
  fr : ∀ p ∈ om, Z.H0 p.1 = none ∨ p.1 ∈ Z.ow
structure Post where
  nx : List Sl → Om → Prop
  rt : D → Om → Prop
  bk : List Sl → Om → Prop := fun _ _ => False
  ct : List Sl → Om → Prop := fun _ _ => False
structure EOk (Z : Ent) (K : PySem.W.Frag) (C : Addr) (P : Post) (Dn : Ends) : Prop where
  nx : ∀ G H σ de om, Rel Z K C G H σ de om → P.nx de om → Dn.nx σ H
  rt : ∀ v G H d om, Grow Z.ow Z.G0 Z.H0 G H → OnR K C G H om → Rp K C G v d → P.rt d om → Dn.rt v H
  bk : ∀ G H σ de om, Rel Z K C G H σ de om → P.bk de om → Dn.bk σ H
  ct : ∀ G H σ de om, Rel Z K C G H σ de om → P.ct de om → Dn.ct σ H
def SD (K : PySem.W.Frag) (C : Addr) (ts : TS) (de : List Sl) (om : Om) (P : Post) : Prop :=
  ∀ Z G H σ Dn, Rel Z K C G H σ de om → EOk Z K C P Dn → ts Dn σ H

inductive OmAt : Om → Addr → Ow → Prop
  | z {a : Addr} {o : Ow} {l : Om} : OmAt ((a, o) :: l) a o
  | s {p : Addr × Ow} {a : Addr} {o : Ow} {l : Om} : OmAt l a o → OmAt (p :: l) a o
inductive OmSet : Om → Addr → Ow → Om → Prop
  | z {a : Addr} {o u : Ow} {l : Om} : OmSet ((a, o) :: l) a u ((a, u) :: l)
  | s {p : Addr × Ow} {a : Addr} {u : Ow} {l l' : Om} : OmSet l a u l' → OmSet (p :: l) a u (p :: l')
inductive OmDel : Om → Addr → Ow → Om → Prop
  | z {a : Addr} {o : Ow} {l : Om} : OmDel ((a, o) :: l) a o l
  | s {p : Addr × Ow} {a : Addr} {o : Ow} {l l' : Om} : OmDel l a o l' → OmDel (p :: l) a o (p :: l')
theorem OmAt.mem : ∀ {om : Om} {a : Addr} {o : Ow}, OmAt om a o → (a, o) ∈ om
  | _, _, _, .z => List.mem_cons_self
  | _, _, _, .s h => List.mem_cons_of_mem _ h.mem
theorem OmSet.ads : ∀ {om om' : Om} {a : Addr} {o : Ow}, OmSet om a o om' → TA.ads om' = TA.ads om
  | _, _, _, _, .z => rfl
  | _, _, _, _, .s h => congrArg (_ :: ·) h.ads
theorem OmSet.a_mem : ∀ {om om' : Om} {a : Addr} {o : Ow}, OmSet om a o om' → a ∈ TA.ads om
  | _, _, _, _, .z => List.mem_cons_self
  | _, _, _, _, .s h => List.mem_cons_of_mem _ h.a_mem
theorem OmSet.mem : ∀ {om om' : Om} {a : Addr} {o : Ow}, OmSet om a o om' → ∀ p ∈ om', p = (a, o) ∨ p ∈ om
  | _, _, _, _, .z, p, hp => by
    rcases List.mem_cons.mp hp with z | z
    · exact .inl z
    · exact .inr (List.mem_cons_of_mem _ z)
  | _, _, _, _, .s h, p, hp => by
    rcases List.mem_cons.mp hp with z | z
    · exact .inr (List.mem_cons.mpr (.inl z))
    · rcases h.mem p z with y | y
      · exact .inl y
      · exact .inr (List.mem_cons_of_mem _ y)
theorem OmSet.uniq : ∀ {om om' : Om} {a : Addr} {o : Ow}, OmSet om a o om' → (TA.ads om').Nodup → ∀ p ∈ om', p.1 = a → p = (a, o)
  | _, _, _, _, .z, nd, p, hp, e => by
    rcases List.mem_cons.mp hp with q | q
    · exact q
    · have h1 := List.mem_map_of_mem (f := Prod.fst) q
      rw [e] at h1
      exact absurd h1 (List.nodup_cons.mp nd).1
  | _, _, _, _, .s k, nd, p, hp, e => by
    rcases List.mem_cons.mp hp with q | q
    · have h1 := k.a_mem
      rw [← k.ads, ← e, q] at h1
      exact absurd h1 (List.nodup_cons.mp nd).1
    · exact k.uniq (List.nodup_cons.mp nd).2 p q e
theorem OmDel.sub : ∀ {om om' : Om} {a : Addr} {o : Ow}, OmDel om a o om' → om'.Sublist om
  | _, _, _, _, .z => List.sublist_cons_self _ _
  | _, _, _, _, .s h => h.sub.cons₂ _
theorem OmDel.mem : ∀ {om om' : Om} {a : Addr} {o : Ow}, OmDel om a o om' → (a, o) ∈ om
  | _, _, _, _, .z => List.mem_cons_self
  | _, _, _, _, .s h => List.mem_cons_of_mem _ h.mem
theorem OmDel.out : ∀ {om om' : Om} {a : Addr} {o : Ow}, OmDel om a o om' → (TA.ads om).Nodup → a ∉ TA.ads om'
  | _, _, _, _, .z, nd => (List.nodup_cons.mp nd).1
  | _, _, _, _, .s h, nd => fun z => by
    rcases List.mem_cons.mp z with y | y
    · exact (List.nodup_cons.mp nd).1 (y ▸ List.mem_map_of_mem h.mem)
    · exact h.out (List.nodup_cons.mp nd).2 y

section
variable {K : PySem.W.Frag} {C : Addr} {G G' H H' : Hp} {σ σ' : L2.St} {de de' de1 de2 : List Sl} {om om' om1 om2 om3 : Om} {ds es : List D} {d x : D} {te ta tb tk : TE} {tr : TA} {wi : TI} {g : TG} {tt : TT} {t u : TS} {P : Post} {Z : Ent}
theorem Rel.step (R : Rel Z K C G H σ de om) (g : Grow (ads om) G H G' H') (o : OnR K C G' H' om') (e : ads om' = ads om) (sl : SlR K C G' σ' de') : Rel Z K C G' H' σ' de' om' :=
  ⟨⟨g.s, sl, o⟩, ⟨Same.trans R.gr.g g.g, fun a u hn h => by
    have h1 := R.gr.h a u hn h
    refine g.h a u (fun z => ?_) h1
    obtain ⟨p, hp, e⟩ := List.mem_map.mp z
    rcases R.fr p hp with q | q
    · rw [e, h] at q
      cases q
    · exact hn (e ▸ q), fun a h => g.p a (R.gr.p a h), fun a hn h1 h2 => by
    by_cases z : a ∈ ads om
    · rw [← e] at z
      obtain ⟨p, hp, e⟩ := List.mem_map.mp z
      rw [← e]
      exact (o.at_ p hp).1
    · exact g.n a z (R.gr.p a h1) (R.gr.n a hn h1 h2), g.s⟩, fun p hp => by
    have z : p.1 ∈ ads om := e ▸ List.mem_map_of_mem hp
    obtain ⟨p0, h0, e0⟩ := List.mem_map.mp z
    rw [← e0]
    exact R.fr p0 h0⟩
theorem sd_seq (h : SD K C t de om { P with nx := fun de' om' => SD K C u de' om' P }) : SD K C (tSeq t u) de om P := fun Z G H σ Dn R E =>
  h Z G H σ { Dn with nx := u Dn } R ⟨fun G1 H1 σ1 de1 om1 R1 q => q Z G1 H1 σ1 Dn R1 E, E.rt, E.bk, E.ct⟩
theorem sd_next (h : P.nx de om) : SD K C tNext de om P := fun Z G H σ Dn R E => E.nx G H σ de om R h
theorem sd_asg {i : Nat} (h : ED K C te de om d om1) (hs : SetAt de i (.d d) de') (q : P.nx de' om1) : SD K C (tAsg te (gName i)) de om P := fun Z G H σ Dn R E =>
  h.2 G H σ R.st _ fun v G1 H1 g1 o1 r1 => E.nx G1 H1 _ de' om1 (R.step g1 o1 h.1 ((R.st.sl.mono g1.g).set r1 hs)) q
theorem sd_asgG {ts : List Nat} (h : ED K C te de om d om1) (hg : GD K C g d de de' ts) (q : P.nx de' om1) : SD K C (tAsg te g) de om P := fun Z G H σ Dn R E =>
  h.2 G H σ R.st _ fun v G1 H1 g1 o1 r1 => hg G1 H1 σ v g1.s (R.st.sl.mono g1.g) r1 _ fun σ1 S1 _ => E.nx G1 H1 σ1 de' om1 (R.step g1 o1 h.1 S1) q
theorem sd_par {i j : Nat} {a b : D} (h : AD K C tr de om [a, b] om1) (h1 : SetAt de i (.d a) de1) (h2 : SetAt de1 j (.d b) de2) (q : P.nx de2 om1) : SD K C (tPar i j tr) de om P := fun Z G H σ Dn R E =>
  h.2 G H σ R.st _ fun vs G1 H1 g1 o1 r1 => by
    obtain ⟨v, w, rfl, r2, r3⟩ := r1.two_of
    exact ⟨v, w, rfl, E.nx G1 H1 _ de2 om1 (R.step g1 o1 h.1 (((R.st.sl.mono g1.g).set r2 h1).set r3 h2)) q⟩
/-- a new list of one's own -/
theorem sd_new {i : Nat} (h : EN K C te de om ds om1) (q : ∀ a, ∃ de', SetAt de i (.o a) de' ∧ P.nx de' (om1 ++ [(a, .l ds)])) : SD K C (tAsg te (gName i)) de om P := fun Z G H σ Dn R E =>
  h.2 G H σ R.st _ fun a xs G1 H1 g1 o1 hn gn hx r1 => by
    obtain ⟨de', hs, q⟩ := q a
    have R1 := R.step g1 o1 h.1 ((R.st.sl.mono g1.g).setO hs)
    have nA : a ∉ ads om1 := fun z => by
      rw [h.1] at z
      obtain ⟨p0, h0, e0⟩ := List.mem_map.mp z
      have q1 := (R.st.on.at_ p0 h0).2.there
      rw [e0] at q1
      exact q1 hn
    refine E.nx G1 H1 _ de' _ ⟨⟨g1.s, R1.st.sl, ⟨fun p hp => ?_, ?_⟩⟩, R1.gr, fun p hp => ?_⟩ q
    · rcases List.mem_append.mp hp with z | z
      · exact o1.at_ p z
      · rw [List.mem_singleton.mp z]
        exact ⟨gn, xs, hx, r1⟩
    · rw [List.map_append, List.nodup_append]
      refine ⟨o1.nd, by simp, fun y hy z hz => ?_⟩
      have ez : z = a := by simpa using hz
      rw [ez]
      exact fun e => nA (e ▸ hy)
    · rcases List.mem_append.mp hp with z | z
      · exact R1.fr p z
      · rw [List.mem_singleton.mp z]
        left
        cases y : Z.H0 a with
        | none => rfl
        | some u => exact absurd hn (R.gr.p a (by rw [y]; exact fun z => by cases z))
theorem sd_ret (h : ED K C te de om d om1) (q : P.rt d om1) : SD K C (tRet te) de om P := fun Z G H σ Dn R E =>
  h.2 G H σ R.st _ fun v G1 H1 g1 o1 r1 => E.rt v G1 H1 d om1 (R.step g1 o1 h.1 (R.st.sl.mono g1.g)).gr o1 r1 q
theorem sd_if {b : Bool} (h : TD K C tt de om b om1) (h1 : b = true → SD K C t de om1 P) (h2 : b = false → SD K C u de om1 P) : SD K C (tIfS tt t u) de om P := fun Z G H σ Dn R E =>
  h.2 G H σ R.st _ fun G1 H1 g1 o1 => by
    have R1 := R.step g1 o1 h.1 (R.st.sl.mono g1.g)
    cases b with
    | true => exact h1 rfl Z G1 H1 σ Dn R1 E
    | false => exact h2 rfl Z G1 H1 σ Dn R1 E
theorem sd_drop (h : ED K C te de om d om1) (q : P.nx de om1) : SD K C (tDrop te) de om P := fun Z G H σ Dn R E =>
  h.2 G H σ R.st _ fun v G1 H1 g1 o1 r1 => E.nx G1 H1 σ de om1 (R.step g1 o1 h.1 (R.st.sl.mono g1.g)) q
/-- an owned object changes -/
theorem Rel.put {a : Addr} {o : Ow} {u : HO} (R : Rel Z K C G H σ de om) (hs : OmSet om a o om') (ho : OwnAt K C G (upd H a u) a o) : Rel Z K C G (upd H a u) σ de om' := by
  have hm := hs.a_mem
  obtain ⟨p0, h0, e0⟩ := List.mem_map.mp hm
  have ga : G a = none := e0 ▸ (R.st.on.at_ p0 h0).1
  have on : OnR K C G (upd H a u) om' := ⟨fun p hp => by
    have z : p.1 ∈ ads om := hs.ads ▸ List.mem_map_of_mem hp
    by_cases y : p.1 = a
    · have ep : p = (a, o) := by
        exact hs.uniq (by rw [hs.ads]; exact R.st.on.nd) p hp y
      rw [ep]
      exact ⟨ga, ho⟩
    · rcases hs.mem p hp with q | q
      · exact absurd (congrArg Prod.fst q) y
      · refine ⟨(R.st.on.at_ p q).1, (R.st.on.at_ p q).2.mono (fun _ _ e => e) fun w e => ?_⟩
        rw [upd_ne y]
        exact e, (by
    have e1 : om'.map Prod.fst = om.map Prod.fst := hs.ads
    rw [e1]
    exact R.st.on.nd)⟩
  refine ⟨⟨fun b w e => ?_, R.st.sl, on⟩, ⟨R.gr.g, fun b w hn e => ?_, fun b e => ?_, R.gr.n, fun b w e => ?_⟩, fun p hp => ?_⟩
  · rw [upd_ne (ne_of_none e ga)]
    exact R.st.sub b w e
  · by_cases z : b = a
    · subst z
      rcases R.fr p0 h0 with q | q
      · rw [e0, e] at q
        cases q
      · exact absurd (e0 ▸ q) hn
    · rw [upd_ne z]
      exact R.gr.h b w hn e
  · by_cases z : b = a
    · subst z
      rw [upd_same]
      exact fun z => by cases z
    · rw [upd_ne z]
      exact R.gr.p b e
  · rw [upd_ne (ne_of_none e ga)]
    exact R.st.sub b w e
  · have z : p.1 ∈ ads om := hs.ads ▸ List.mem_map_of_mem hp
    obtain ⟨p1, h1, e1⟩ := List.mem_map.mp z
    rw [← e1]
    exact R.fr p1 h1
end
end TA

/-! The data layer, 6: owned objects in use, loops, defs. -/
namespace TA
open PySem L2

section
variable {K : PySem.W.Frag} {C : Addr} {G G' H H' : Hp} {σ σ' : L2.St} {de de' de1 de2 : List Sl} {om om' om1 om2 om3 : Om} {ds es : List D} {d x : D} {te ta tb tk : TE} {tr : TA} {wi : TI} {g : TG} {tt : TT} {t u : TS} {P : Post} {Z : Ent} {a : Addr} {i : Nat}
theorem OnR.l (h : OnR K C G H om) (m : OmAt om a (.l ds)) : ∃ xs, H a = some (.lst xs) ∧ RpAll K C G xs ds := (h.at_ _ m.mem).2
theorem OnR.k {kvs : List (Str × D)} (h : OnR K C G H om) (m : OmAt om a (.k kvs)) : ∃ ks, H a = some (.dK ks) ∧ RpKv K C G ks kvs := (h.at_ _ m.mem).2
theorem SlR.o (h : SlR K C G σ de) (m : At de i (.o a)) : σ[i]? = some (some (.ref a)) := h.2 i _ m.get
/-- l[k] of an owned list -/
theorem ed_ixO {k : Int} (m : At de i (.o a)) (hk : ED K C tk de om (.int k) om1) (ha : OmAt om1 a (.l ds)) (h : atI ds k = some d) : ED K C (tOp (rIxL K) (tVar i) tk) de om d om1 :=
  ⟨hk.1, fun G H σ S Q q => ⟨.ref a, S.sl.o m, hk.2 G H σ S _ fun v G1 H1 g1 o1 r1 => by
    obtain ⟨xs, h1, h2⟩ := o1.l ha
    obtain ⟨j, h3, h4⟩ := atI_len h2.len h
    obtain ⟨w, h5, h6⟩ := h2.get h3
    exact ⟨a, xs, k, w, rfl, r1.int_of, SqL.of h1, h4 w h5, q w G1 H1 g1 o1 h6⟩⟩⟩
/-- l.append(e) -/
theorem sd_app (m : At de i (.o a)) (h : ED K C te de om d om1) (h0 : OmAt om a (.l es)) (ha : OmAt om1 a (.l ds)) (hl : ds.length < 100000) (hs : OmSet om1 a (.l (ds ++ [d])) om2) (q : P.nx de om2) :
    SD K C (tDrop (tBM K "list" rAppend (tVar i) (tCons te tNil))) de om P := fun Z G H σ Dn R E => by
  refine ⟨.ref a, R.st.sl.o m, ?_, h.2 G H σ R.st _ fun v G1 H1 g1 o1 r1 => ?_⟩
  · obtain ⟨xs, e, _⟩ := R.st.on.l h0
    exact .inl ⟨rfl, xs, SqL.of e⟩
  · obtain ⟨xs, h1, h2⟩ := o1.l ha
    refine ⟨a, xs, v, rfl, rfl, h1, by rw [h2.len]; exact sz_lt hl, ?_⟩
    have R1 := R.step g1 o1 h.1 (R.st.sl.mono g1.g)
    exact E.nx G1 _ σ de om2 (R1.put hs ⟨xs ++ [v], upd_same, h2.append (.one r1)⟩) q
/-- l.extend(e), e a list that is data -/
theorem sd_ext {fs : List D} (m : At de i (.o a)) (h : ED K C te de om (.lst fs) om1) (h0 : OmAt om a (.l es)) (ha : OmAt om1 a (.l ds)) (hl : ds.length + fs.length ≤ 100000) (hs : OmSet om1 a (.l (ds ++ fs)) om2) (q : P.nx de om2) :
    SD K C (tDrop (tBM K "list" rExtend (tVar i) (tCons te tNil))) de om P := fun Z G H σ Dn R E => by
  refine ⟨.ref a, R.st.sl.o m, ?_, h.2 G H σ R.st _ fun v G1 H1 g1 o1 r1 => ?_⟩
  · obtain ⟨xs, e, _⟩ := R.st.on.l h0
    exact .inl ⟨rfl, xs, SqL.of e⟩
  · obtain ⟨xs, h1, h2⟩ := o1.l ha
    obtain ⟨b, zs, rfl, h3, h4⟩ := r1.lst_of
    refine ⟨a, b, xs, zs, rfl, rfl, h1, g1.s _ _ h3, by rw [h2.len, h4.len]; exact sz_le hl, ?_⟩
    have R1 := R.step g1 o1 h.1 (R.st.sl.mono g1.g)
    exact E.nx G1 _ σ de om2 (R1.put hs ⟨xs ++ zs, upd_same, h2.append h4⟩) q
theorem ixN_nat {n j : Nat} (hj : j < n) : ixN n (j : Int) = some j := by
  unfold ixN
  rw [if_pos (by omega), if_pos (by omega)]
  simp
/-- l[k] = e -/
theorem sd_put {k : Int} {j : Nat} (m : At de i (.o a)) (h : ED K C te de om d om1) (hk : ED K C tk de om1 (.int k) om1) (ha : OmAt om1 a (.l ds)) (hj : ixN ds.length k = some j) (hs : OmSet om1 a (.l (ds.set j d)) om2) (q : P.nx de om2) :
    SD K C (tAsg te (gSub (tVar i) tk rSetL)) de om P := fun Z G H σ Dn R E => by
  refine h.2 G H σ R.st _ fun v G1 H1 g1 o1 r1 => ?_
  have R1 := R.step g1 o1 h.1 (R.st.sl.mono g1.g)
  refine ⟨.ref a, R1.st.sl.o m, hk.2 G1 H1 σ R1.st _ fun u G2 H2 g2 o2 r2 => ?_⟩
  have R2 := R1.step g2 o2 rfl (R1.st.sl.mono g2.g)
  obtain ⟨xs, h1, h2⟩ := o2.l ha
  exact ⟨a, xs, k, j, rfl, r2.int_of, h1, by rw [h2.len]; exact hj, E.nx G2 _ σ de om2 (R2.put hs ⟨xs.set j v, upd_same, h2.set j (r1.mono g2.g)⟩) q⟩
/-- an owned list is data from now on -/
theorem Rel.frz (R : Rel Z K C G H σ de om) (m : At de i (.o a)) (hd : OmDel om a (.l ds) om') (hs : SetAt de i (.d (.lst ds)) de') : ∃ G', Rel Z K C G' H σ de' om' := by
  obtain ⟨ga, xs, hx, r⟩ := R.st.on.at_ _ hd.mem
  have g2 : Same G (upd G a (.lst xs)) := fun b o e => by
    rw [upd_ne (ne_of_none e ga)]
    exact e
  have out := hd.out R.st.on.nd
  refine ⟨upd G a (.lst xs), ⟨fun b o e => ?_, ?_, ⟨fun p hp => ⟨?_, ?_⟩, List.Nodup.sublist (hd.sub.map _) R.st.on.nd⟩⟩, ⟨Same.trans R.gr.g g2, R.gr.h, R.gr.p, fun b nb h1 h2 => ?_, fun b o e => ?_⟩, fun p hp => R.fr p (hd.sub.subset hp)⟩
  · by_cases z : b = a
    · subst z
      rw [upd_same] at e
      rw [hx]
      exact e
    · rw [upd_ne z] at e
      exact R.st.sub b o e
  · have e := hs.eq
    have S := R.st.sl.mono g2
    have h1 := S.o m
    have S2 := S.set (v := .ref a) (.lst upd_same (r.mono g2)) hs
    have e2 : σ.set i (some (.ref a)) = σ := by
      apply List.ext_getElem?
      intro j
      by_cases z : i = j
      · subst z
        rw [h1, List.getElem?_set_self (by rw [R.st.sl.1]; exact e.2)]
      · rw [List.getElem?_set_ne z]
    rw [e2] at S2
    exact S2
  · have z : p.1 ≠ a := fun z => out (z ▸ List.mem_map_of_mem hp)
    rw [upd_ne z]
    exact (R.st.on.at_ p (hd.sub.subset hp)).1
  · exact (R.st.on.at_ p (hd.sub.subset hp)).2.mono g2 fun _ e => e
  · have z : b ≠ a := fun z => by
      subst z
      rcases R.fr _ hd.mem with q | q
      · exact h1 q
      · exact nb q
    rw [upd_ne z]
    exact R.gr.n b nb h1 h2
  · by_cases z : b = a
    · subst z
      rw [upd_same] at e
      rw [hx]
      exact e
    · rw [upd_ne z] at e
      exact R.st.sub b o e
theorem sd_frz (m : At de i (.o a)) (hd : OmDel om a (.l ds) om') (hs : SetAt de i (.d (.lst ds)) de') (h : SD K C t de' om' P) : SD K C t de om P := fun Z G H σ Dn R E => by
  obtain ⟨G1, R1⟩ := R.frz m hd hs
  exact h Z G1 H σ Dn R1 E
theorem Rel.wk (R : Rel Z K C G H σ de om) (w : Wk de de') (s : om'.Sublist om) : Rel Z K C G H σ de' om' :=
  ⟨⟨R.st.sub, R.st.sl.wk w, ⟨fun p hp => R.st.on.at_ p (s.subset hp), List.Nodup.sublist (s.map _) R.st.on.nd⟩⟩, R.gr, fun p hp => R.fr p (s.subset hp)⟩
theorem sd_wk (w : Wk de de') (s : om'.Sublist om) (h : SD K C t de' om' P) : SD K C t de om P := fun Z G H σ Dn R E => h Z G H σ Dn (R.wk w s) E
/-- the post may be weakened -/
theorem sd_post {P' : Post} (h : SD K C t de om P') (h1 : ∀ de om, P'.nx de om → P.nx de om) (h2 : ∀ d om, P'.rt d om → P.rt d om) (h3 : ∀ de om, P'.bk de om → P.bk de om) (h4 : ∀ de om, P'.ct de om → P.ct de om) : SD K C t de om P := fun Z G H σ Dn R E =>
  h Z G H σ Dn R ⟨fun G H σ de om R q => E.nx G H σ de om R (h1 _ _ q), fun v G H d om g o r q => E.rt v G H d om g o r (h2 _ _ q), fun G H σ de om R q => E.bk G H σ de om R (h3 _ _ q), fun G H σ de om R q => E.ct G H σ de om R (h4 _ _ q)⟩
theorem Rel.comp (R : Rel Z K C G H σ de om) (g : Grow (ads om) G H G' H') : Grow Z.ow Z.G0 Z.H0 G' H' := by
  have key : ∀ a, a ∉ Z.ow → Z.H0 a ≠ none → a ∉ ads om := fun a hn h z => by
    obtain ⟨p, hp, e⟩ := List.mem_map.mp z
    rcases R.fr p hp with q | q
    · rw [e] at q
      exact h q
    · exact hn (e ▸ q)
  exact ⟨Same.trans R.gr.g g.g, fun a u hn h => g.h a u (key a hn (by rw [h]; exact fun z => by cases z)) (R.gr.h a u hn h), fun a h => g.p a (R.gr.p a h), fun a hn h1 h2 => g.n a (key a hn h1) (R.gr.p a h1) (R.gr.n a hn h1 h2), g.s⟩
theorem Rel.then (R : Rel Z K C G H σ de om) (R' : Rel ⟨G, H, ads om⟩ K C G' H' σ' de' om') : Rel Z K C G' H' σ' de' om' :=
  ⟨R'.st, R.comp R'.gr, fun p hp => by
    rcases R'.fr p hp with q | q
    · left
      cases y : Z.H0 p.1 with
      | none => rfl
      | some u => exact absurd q (R.gr.p p.1 (by rw [y]; exact fun z => by cases z))
    · obtain ⟨p0, h0, e0⟩ := List.mem_map.mp q
      rw [← e0]
      exact R.fr p0 h0⟩
theorem Rel.here (S : St0 K C G H σ de om) : Rel ⟨G, H, ads om⟩ K C G H σ de om := ⟨S, .refl S.sub, fun p hp => .inr (List.mem_map_of_mem hp)⟩
/-- for: df, of tell what holds ahead of each turn -/
theorem sd_for (h : IL K C wi de om ds om1) (df : Nat → List Sl) (of : Nat → Om) (h0 : Wk de (df 0)) (ho : (of 0).Sublist om1)
    (hs : ∀ (i : Nat) (d : D), ds[i]? = some d → ∃ de2 ts, GD K C g d (df i) de2 ts ∧ SD K C t de2 (of i) ⟨fun de' om' => Wk de' (df (i + 1)) ∧ (of (i + 1)).Sublist om', P.rt, P.nx, fun de' om' => Wk de' (df (i + 1)) ∧ (of (i + 1)).Sublist om'⟩)
    (hd : P.nx (df ds.length) (of ds.length)) : SD K C (tFor wi g t) de om P := fun Z G H σ Dn R E => by
  refine h.2 G H σ R.st _ fun J G1 H1 g1 o1 W => ?_
  have R1 := R.step g1 o1 h.1 (R.st.sl.mono g1.g)
  refine ⟨fun i m σ2 H2 => i ≤ ds.length ∧ m = ds.length - i ∧ ∃ G2, Same G1 G2 ∧ Rel Z K C G2 H2 σ2 (df i) (of i), ⟨ds.length, Nat.zero_le _, by omega, G1, Same.refl _, R1.wk h0 ho⟩, ?_⟩
  rintro i m σ2 H2 ⟨hi, rfl, G2, e2, R2⟩
  by_cases hlt : i < ds.length
  · refine .inr ⟨W.goes i G2 H2 hlt e2 R2.st.sub, fun σ3 H3 => i + 1 ≤ ds.length ∧ ∃ G3, Same G1 G3 ∧ Rel Z K C G3 H3 σ3 (df (i + 1)) (of (i + 1)), ?_, ?_⟩
    · rintro σ3 H3 ⟨h1, G3, h2⟩
      exact ⟨ds.length - (i + 1), by omega, h1, rfl, G3, h2⟩
    · intro x H3 hy
      obtain ⟨G3, d, g3, hdi, rx⟩ := W.yields i G2 H2 x H3 hlt e2 R2.st.sub hy
      obtain ⟨de2, ts, h3, h4⟩ := hs i d hdi
      have R3 := R2.step g3.weak (R2.st.on.grow g3) rfl (R2.st.sl.mono g3.g)
      refine h3 G3 H3 σ2 x g3.s R3.st.sl rx _ fun σ4 S4 _ => ?_
      have R4 : Rel Z K C G3 H3 σ4 de2 (of i) := ⟨⟨R3.st.sub, S4, R3.st.on⟩, R3.gr, R3.fr⟩
      have turn : ∀ G5 H5 σ5 de5 om5, Rel ⟨G3, H3, ads (of i)⟩ K C G5 H5 σ5 de5 om5 → (Wk de5 (df (i + 1)) ∧ (of (i + 1)).Sublist om5) → i + 1 ≤ ds.length ∧ ∃ G3, Same G1 G3 ∧ Rel Z K C G3 H5 σ5 (df (i + 1)) (of (i + 1)) :=
        fun G5 H5 σ5 de5 om5 R5 q => ⟨hlt, G5, Same.trans e2 (Same.trans g3.g R5.gr.g), (R4.then R5).wk q.1 q.2⟩
      exact h4 ⟨G3, H3, ads (of i)⟩ G3 H3 σ4 _ (Rel.here R4.st) ⟨turn, fun v G5 H5 d5 om5 g5 o5 r5 q => E.rt v G5 H5 d5 om5 (R4.comp g5) o5 r5 q, fun G5 H5 σ5 de5 om5 R5 q => E.nx G5 H5 σ5 de5 om5 (R4.then R5) q, turn⟩
  · have e : i = ds.length := by omega
    subst e
    exact .inl ⟨W.stops G2 H2 e2 R2.st.sub, E.nx G2 H2 σ2 _ _ R2 hd⟩
/-! defs -/
theorem slR_start {N : List Str} {vs : List V} {ds : List D} (r : RpAll K C G vs ds) (hl : ds.length ≤ N.length) : SlR K C G (L2.start N vs) (ds.map Sl.d ++ List.replicate (N.length - ds.length) .no) := by
  unfold L2.start
  refine ⟨by simp [r.len], fun i s e => ?_⟩
  by_cases hi : i < ds.length
  · rw [List.getElem?_append_left (by simpa using hi), List.getElem?_map, List.getElem?_eq_getElem hi] at e
    cases e
    obtain ⟨v, h1, h2⟩ := r.get (List.getElem?_eq_getElem hi)
    refine ⟨v, ?_, h2⟩
    rw [List.getElem?_append_left (by rw [List.length_map, r.len]; exact hi), List.getElem?_map, h1]
    rfl
  · rw [List.getElem?_append_right (by simpa using Nat.le_of_not_lt hi), List.getElem?_replicate] at e
    split at e
    · cases e
      trivial
    · cases e
/-- a def without effects keeps its promise, by its body on data -/
theorem fn_pure {N : List Str} {R : List D → D → Prop} (hN : ∀ ds d, R ds d → ds.length ≤ N.length)
    (body : ∀ ds d, R ds d → SD K C t (ds.map Sl.d ++ List.replicate (N.length - ds.length) .no) [] ⟨fun _ _ => d = .non, fun d' _ => d' = d, fun _ _ => False, fun _ _ => False⟩) (vs : List V) (H : Hp) (Q : VK) (E : XK) (h : spD K C R vs H Q E) :
    t { nx := fun _ H' => Q .non H', rt := Q } (L2.start N vs) H := by
  obtain ⟨G, ds, d, e, r, hR, q⟩ := h
  refine body ds d hR ⟨G, H, []⟩ G H _ _ ⟨⟨e, slR_start r (hN ds d hR), ⟨fun p hp => absurd hp (by simp), by simp⟩⟩, .refl e, fun p hp => absurd hp (by simp)⟩ ⟨fun G1 H1 σ1 de1 om1 R1 z => ?_, fun v G1 H1 d1 om1 g1 o1 r1 z => ?_, fun _ _ _ _ _ _ z => z.elim, fun _ _ _ _ _ _ z => z.elim⟩
  · exact q .non G1 H1 R1.gr (z ▸ .non)
  · exact q v G1 H1 g1 (z ▸ r1)
/-- a def that changes the list at its first argument -/
def spS (K : PySem.W.Frag) (C : Addr) (R : List D → List D → D → List D → Prop) : Sp := fun vs H Q _ => ∃ G st ws ds s d s', vs = .ref st :: ws ∧ Same G H ∧ G st = none ∧ OwnAt K C G H st (.l s) ∧ RpAll K C G ws ds ∧ R s ds d s' ∧
  ∀ v G' H', Grow [st] G H G' H' → G' st = none → OwnAt K C G' H' st (.l s') → Rp K C G' v d → Q v H'
theorem fn_strm {N : List Str} {R : List D → List D → D → List D → Prop} (hN : ∀ s ds d s', R s ds d s' → ds.length + 1 ≤ N.length)
    (body : ∀ st s ds d s', R s ds d s' → SD K C t (.o st :: ds.map Sl.d ++ List.replicate (N.length - (ds.length + 1)) .no) [(st, .l s)] ⟨fun _ _ => False, fun d' om => d' = d ∧ OmAt om st (.l s'), fun _ _ => False, fun _ _ => False⟩) (vs : List V) (H : Hp) (Q : VK) (E : XK) (h : spS K C R vs H Q E) :
    t { nx := fun _ H' => Q .non H', rt := Q } (L2.start N vs) H := by
  obtain ⟨G, st, ws, ds, s, d, s', rfl, e, gn, ow, r, hR, q⟩ := h
  have hl := hN s ds d s' hR
  refine body st s ds d s' hR ⟨G, H, [st]⟩ G H _ _ ⟨⟨e, ?_, ⟨fun p hp => ?_, by simp⟩⟩, .refl e, fun p hp => ?_⟩ ⟨fun G1 H1 σ1 de1 om1 R1 z => z.elim, fun v G1 H1 d1 om1 g1 o1 r1 z => ?_, fun _ _ _ _ _ _ z => z.elim, fun _ _ _ _ _ _ z => z.elim⟩
  · unfold L2.start
    refine ⟨by simp [r.len], fun i s e => ?_⟩
    cases i with
    | zero =>
      have e2 : s = .o st := by simpa using e.symm
      subst e2
      exact rfl
    | succ i =>
      rw [List.cons_append, List.getElem?_cons_succ] at e
      rw [List.map_cons, List.cons_append, List.getElem?_cons_succ]
      by_cases hi : i < ds.length
      · rw [List.getElem?_append_left (by simpa using hi), List.getElem?_map, List.getElem?_eq_getElem hi] at e
        cases e
        obtain ⟨v, h1, h2⟩ := r.get (List.getElem?_eq_getElem hi)
        refine ⟨v, ?_, h2⟩
        rw [List.getElem?_append_left (by rw [List.length_map, r.len]; exact hi), List.getElem?_map, h1]
        rfl
      · rw [List.getElem?_append_right (by simpa using Nat.le_of_not_lt hi), List.getElem?_replicate] at e
        split at e
        · cases e
          trivial
        · cases e
  · rw [List.mem_singleton.mp hp]
    exact ⟨gn, ow⟩
  · rw [List.mem_singleton.mp hp]
    exact .inr (by simp)
  · obtain ⟨e1, m⟩ := z
    subst e1
    exact q v G1 H1 g1 (o1.at_ _ m.mem).1 (o1.at_ _ m.mem).2 r1
/-- a call of such a def -/
theorem ed_scall {R : List D → List D → D → List D → Prop} {E : XK} {s s' : List D} (m : At de i (.o a)) (h : AD K C tr de om ds om1) (ha : OmAt om1 a (.l s)) (hR : R s ds d s') (hs : OmSet om1 a (.l s') om2) :
    ED K C (tCall (spS K C R) [] E (tCons (tVar i) tr)) de om d om2 :=
  ⟨hs.ads.trans h.1, fun G H σ S Q q => ⟨.ref a, S.sl.o m, h.2 G H σ S _ fun vs G1 H1 g1 o1 r1 => by
    have ga := (o1.at_ _ ha.mem).1
    refine ⟨G1, a, vs, ds, s, d, s', by rw [List.append_nil], g1.s, ga, (o1.at_ _ ha.mem).2, r1, hR, fun v G2 H2 g2 ga2 ow2 r2 => ?_⟩
    have ha1 : a ∈ ads om := h.1 ▸ hs.a_mem
    refine q v G2 H2 (g1.trans (g2.mono fun x hx => by rw [List.mem_singleton.mp hx]; exact ha1)) ⟨fun p hp => ?_, ?_⟩ r2
    · by_cases y : p.1 = a
      · have nd : (ads om2).Nodup := by
          rw [hs.ads]
          exact o1.nd
        rw [hs.uniq nd p hp y]
        exact ⟨ga2, ow2⟩
      · rcases hs.mem p hp with z | z
        · exact absurd (congrArg Prod.fst z) y
        · have np : p.1 ∉ [a] := fun z => y (List.mem_singleton.mp z)
          exact ⟨g2.n _ np (o1.at_ p z).2.there (o1.at_ p z).1, (o1.at_ p z).2.mono g2.g fun w e => g2.h _ _ np e⟩
    · have e1 : om2.map Prod.fst = om1.map Prod.fst := hs.ads
      rw [e1]
      exact o1.nd⟩⟩
end
end TA

/-! list(zip(xs, ys)) of two lists, over the heap. -/
namespace TX
open PySem PySem.Calls PyProof.Rows
theorem zip_no_len : typeLookup (.type "zip") "__len__" = pure none := am_miss_of_fast (by decide +kernel)
theorem zip_no_hint : typeLookup (.type "zip") "__length_hint__" = pure none := am_miss_of_fast (by decide +kernel)
/-- the zip behind i items, while the list at S is built -/
def ZS (z TI TO i1 i2 l1 l2 S : Addr) (xs ys : Array Value) (i : Nat) (h : Heap) : Prop :=
  IsPair h TI (.ref i1) (.ref i2) ∧ h.IsListIter i1 l1 i ∧ h.IsListIter i2 l2 i ∧ h.IsList l1 xs ∧ h.IsList l2 ys ∧
    ((IsZip h z TI TO .none ∧ ∃ a b, IsPair h TO a b) ∨ ∃ T f oT, IsZipHeld h z TI TO T f ∧ h.get? T = some oT ∧ T ≠ z ∧ T ≠ i1 ∧ T ≠ i2 ∧ T ≠ S)
section
variable {prog : Program} {w : World} {A : Around} {s : Shared} {R : Result → Shared → Prop} {z TI TO i1 i2 l1 l2 S : Addr} {xs ys : Array Value}
structure Off (z TI TO i1 i2 l1 l2 S : Addr) : Prop where
  z : z ≠ S
  TI : TI ≠ S
  TO : TO ≠ S
  i1 : i1 ≠ S
  i2 : i2 ≠ S
  l1 : l1 ≠ S
  l2 : l2 ≠ S
theorem ZS.keep {h h' : Heap} {i : Nat} (st : ZS z TI TO i1 i2 l1 l2 S xs ys i h) (o : Off z TI TO i1 i2 l1 l2 S) (hk : ∀ b o, b ≠ S → h.get? b = some o → h'.get? b = some o) : ZS z TI TO i1 i2 l1 l2 S xs ys i h' := by
  obtain ⟨hTI, h1, h2, hl1, hl2, hz⟩ := st
  refine ⟨hk _ _ o.TI hTI, h1.at fun u e => hk _ u o.i1 e, h2.at fun u e => hk _ u o.i2 e, hl1.at fun u e => hk _ u o.l1 e, hl2.at fun u e => hk _ u o.l2 e, ?_⟩
  rcases hz with ⟨hz, a, b, hTO⟩ | ⟨T, f, oT, hz, hT, r1, r2, r3, r4⟩
  · exact .inl ⟨hk _ _ o.z hz, a, b, hk _ _ o.TO hTO⟩
  · exact .inr ⟨T, f, oT, hk _ _ o.z hz, hk _ _ r4 hT, r1, r2, r3, r4⟩
theorem zs_item {i : Nat} {x y : Value} {E : Value → Shared → Prop} {Q : Option Value → Shared → Prop} (D : ZipApart z TI TO i1 i2 l1 l2) (st : ZS z TI TO i1 i2 l1 l2 S xs ys i s.heap) (hS : S < s.heap.objs.size) (ex : xs[i]? = some x) (ey : ys[i]? = some y)
    (hQ : ∀ h', ZS z TI TO i1 i2 l1 l2 S xs ys (i + 1) h' → IsPair h' s.heap.objs.size x y → h'.objs.size = s.heap.objs.size + 1 → (∀ b o, b ≠ z → b ≠ TO → b ≠ i1 → b ≠ i2 → s.heap.get? b = some o → h'.get? b = some o) → Q (some (.ref s.heap.objs.size)) { s with heap := h' }) :
    wpAny (model prog w) A (pyNext (.ref z)) Q E s := by
  obtain ⟨hTI, h1, h2, hl1, hl2, hz⟩ := st
  have lt : ∀ {c o}, s.heap.get? c = some o → s.heap.objs.size ≠ c := fun e => Nat.ne_of_gt (Heap.lt_size e)
  have n1 : s.heap.objs.size ≠ i1 := let ⟨_, e, _⟩ := h1; lt e
  have n2 : s.heap.objs.size ≠ i2 := let ⟨_, e, _⟩ := h2; lt e
  rcases hz with ⟨hz, a, b, hTO⟩ | ⟨T, f, oT, hz, hT, r1, r2, r3, r4⟩
  · refine wpAny_pyNext_zip_item D hz hTI hTO h1 h2 hl1 hl2 ex ey fun h' a1 a2 a3 a4 a5 a6 hk => ?_
    exact hQ h' ⟨hk _ _ D.TIz D.TITO D.TIi1 D.TIi2 hTI, a3, a4, hl1.at fun o e => hk _ o D.l1z D.l1TO D.l1i1 D.l1i2 e, hl2.at fun o e => hk _ o D.l2z D.l2TO D.l2i1 D.l2i2 e,
      .inr ⟨s.heap.objs.size, false, _, a1, a5, lt hz, n1, n2, Nat.ne_of_gt hS⟩⟩ a5 a6 hk
  · refine wpAny_pyNext_zip_item_held D hz hT hTI h1 h2 hl1 hl2 ex ey fun h' a1 a3 a4 a5 a6 hk => ?_
    exact hQ h' ⟨hk _ _ D.TIz D.TIi1 D.TIi2 hTI, a3, a4, hl1.at fun o e => hk _ o D.l1z D.l1i1 D.l1i2 e, hl2.at fun o e => hk _ o D.l2z D.l2i1 D.l2i2 e,
      .inr ⟨T, true, oT, a1, hk _ _ r1 r2 r3 hT, r1, r2, r3, r4⟩⟩ a5 a6 fun b o c1 _ c3 c4 e => hk b o c1 c3 c4 e
theorem zs_done {i : Nat} {E : Value → Shared → Prop} {Q : Option Value → Shared → Prop} (hh : A.handled = none) (D : ZipApart z TI TO i1 i2 l1 l2) (st : ZS z TI TO i1 i2 l1 l2 S xs ys i s.heap) (he : xs[i]? = none ∨ ys[i]? = none)
    (hQ : ∀ h', (∀ b o, b ≠ z → b ≠ TO → b ≠ i1 → b ≠ i2 → s.heap.get? b = some o → h'.get? b = some o) → Q none { s with heap := h' }) :
    wpAny (model prog w) A (pyNext (.ref z)) Q E s := by
  obtain ⟨hTI, h1, h2, hl1, hl2, hz⟩ := st
  rcases hz with ⟨hz, a, b, hTO⟩ | ⟨T, f, oT, hz, hT, r1, r2, r3, r4⟩
  · exact wpAny_pyNext_zip_end hh D hz hTI hTO h1 h2 hl1 hl2 he hQ
  · exact wpAny_pyNext_zip_end_held hh D hz hT hTI h1 h2 hl1 hl2 he fun h' hk => hQ h' fun b o c1 _ c3 c4 e => hk b o c1 c3 c4 e
/-- the pairs at as: the i-th of xs and ys each, at addresses from N on -/
def Prs (xs ys : Array Value) (N : Nat) (h : Heap) (as : List Addr) : Prop := ∀ (j : Nat) (a : Addr), as[j]? = some a → N ≤ a ∧ ∃ x y, xs[j]? = some x ∧ ys[j]? = some y ∧ IsPair h a x y
theorem nl {a b : Addr} {N : Nat} (h : N ≤ a) (h2 : b < N) : a ≠ b := fun e => by
  have h3 : (b : Nat) < N := h2
  rw [← e] at h3
  exact absurd h3 (Nat.not_lt_of_le h)
theorem zs_loop (hh : A.handled = none) (D : ZipApart z TI TO i1 i2 l1 l2) (o : Off z TI TO i1 i2 l1 l2 S) {n N : Nat} (hx : n ≤ xs.size) (hy : n ≤ ys.size) (he : xs[n]? = none ∨ ys[n]? = none) (hn : n ≤ sizeLine) (res : Value) {h0 : Heap} (hN : z < N ∧ TO < N ∧ i1 < N ∧ i2 < N ∧ S < N)
    (hR : ∀ h' tk acc c as, (∀ b u, b ≠ S → b ≠ z → b ≠ TO → b ≠ i1 → b ≠ i2 → h0.get? b = some u → h'.get? b = some u) → h'.get? S = some { cls := .type "list", dict := none, data := .seq acc c, slots := #[] } → as.length = n → Prs xs ys N h' as → acc.toList = as.map Value.ref → R (.ok (.ret res)) { s with heap := h', toks := tk }) :
    ∀ (k i : Nat) (h : Heap) (tk c : Nat) (acc : Array Value) (as : List Addr), n - i = k → i ≤ n → ZS z TI TO i1 i2 l1 l2 S xs ys i h → (∀ b u, b ≠ S → b ≠ z → b ≠ TO → b ≠ i1 → b ≠ i2 → h0.get? b = some u → h.get? b = some u) →
      h.get? S = some { cls := .type "list", dict := none, data := .seq acc c, slots := #[] } → acc.toList = as.map Value.ref → as.length = i → Prs xs ys N h as → N ≤ h.objs.size →
      codeAny (model prog w) A (.builtin "list.extend.loop" ⟨[.ref S, .ref z, res], []⟩) R { s with heap := h, toks := tk } := by
  obtain ⟨hN1, hN2, hN3, hN4, hN5⟩ := hN
  intro k
  induction k with
  | zero =>
    intro i h tk c acc as hk hi hst hkeep hS hacc hal hG hIs
    have hin : i = n := by omega
    subst hin
    refine codeAny_builtin PySem.F.entry_extend_loop ?_
    rw [Around.under_plainId PySem.F.plain_extend_loop _]
    show wpAny _ A.in1 (pyNext (.ref z) >>= _) _ _ _
    refine wpAny_bind (zs_done (s := { s with heap := h, toks := tk }) (A := A.in1) hh D hst he fun h' hk => ?_)
    refine wpAny_pure (hR h' tk acc c as (fun b u h1 h2 h3 h4 h5 e => hk b u h2 h3 h4 h5 (hkeep b u h1 h2 h3 h4 h5 e)) (hk S _ o.z.symm o.TO.symm o.i1.symm o.i2.symm hS) hal (fun j a hj => ?_) hacc)
    obtain ⟨hNa, x, y, e1, e2, e3⟩ := hG j a hj
    exact ⟨hNa, x, y, e1, e2, hk a _ (nl hNa hN1) (nl hNa hN2) (nl hNa hN3) (nl hNa hN4) e3⟩
  | succ k ih =>
    intro i h tk c acc as hk hi hst hkeep hS hacc hal hG hIs
    have hlt : i < n := by omega
    have ex : xs[i]? = some xs[i] := Array.getElem?_eq_getElem (by omega)
    have ey : ys[i]? = some ys[i] := Array.getElem?_eq_getElem (by omega)
    have hsz : acc.size = i := by rw [← Array.length_toList, hacc, List.length_map, hal]
    have hSl : S < h.objs.size := Heap.lt_size hS
    refine codeAny_builtin PySem.F.entry_extend_loop ?_
    rw [Around.under_plainId PySem.F.plain_extend_loop _]
    show wpAny _ A.in1 (pyNext (.ref z) >>= _) _ _ _
    refine wpAny_bind (zs_item (s := { s with heap := h, toks := tk }) D hst hSl ex ey fun h' hst' ht hz hkp => ?_)
    dsimp only at ht hz hkp ⊢
    have hS' := hkp S _ o.z.symm o.TO.symm o.i1.symm o.i2.symm hS
    have up : ∀ b u, b ≠ S → h'.get? b = some u → (h'.update S (Obj.mapSeq (·.push (Value.ref h.objs.size)))).get? b = some u := fun b u hb e => (Heap.get?_update_other _ _ (Ne.symm hb)).trans e
    show wpAny _ A.in1 (updateSeq S (·.push (Value.ref h.objs.size)) >>= _) _ _ _
    refine wpAny_bind ?_
    refine wpAny_updateSeq hS' rfl (wpAny_pure ⟨plainId_quiet PySem.F.plain_extend_loop _, ih (i + 1) _ tk _ (acc.push (Value.ref h.objs.size)) (as ++ [h.objs.size]) (by omega) hlt (hst'.keep o up)
      (fun b u h1 h2 h3 h4 h5 e => up b u h1 (hkp b u h2 h3 h4 h5 (hkeep b u h1 h2 h3 h4 h5 e))) (Heap.get?_update_self _ hS' rfl) (by rw [Array.toList_push, hacc, List.map_append]; rfl) (by rw [List.length_append, hal]; rfl) ?_ ?_⟩) (by rw [hsz]; omega) (by show (acc.push (Value.ref h.objs.size)).size ≤ sizeLine + 1; rw [Array.size_push, hsz]; omega)
    · intro j b hj
      rcases Nat.lt_trichotomy j as.length with h1 | h1 | h1
      · rw [List.getElem?_append_left h1] at hj
        obtain ⟨hNb, x, y, e1, e2, e3⟩ := hG j b hj
        exact ⟨hNb, x, y, e1, e2, up b _ (nl hNb hN5) (hkp b _ (nl hNb hN1) (nl hNb hN2) (nl hNb hN3) (nl hNb hN4) e3)⟩
      · subst h1
        have hb : h.objs.size = b := by simpa using hj
        subst hb
        exact ⟨hIs, _, _, by rw [hal]; exact ex, by rw [hal]; exact ey, up _ _ (nl hIs hN5) ht⟩
      · have hnone : (as ++ [h.objs.size])[j]? = none := List.getElem?_eq_none (by rw [List.length_append, List.length_singleton]; omega)
        rw [hnone] at hj
        cases hj
    · have e : (h'.update S (Obj.mapSeq (·.push (Value.ref h.objs.size)))).get? h.objs.size = _ := up _ _ (nl hIs hN5) ht
      exact Nat.le_trans hIs (Nat.le_of_lt (Heap.lt_size e))
theorem zs_hint {E : Value → Shared → Prop} {Q : Bool → Shared → Prop} (hT : s.TypeIs (.ref z) "zip") (h : Q true s) : wpAny (model prog w) A (Builtin.List.listLengthHint (.ref z)) Q E s := by
  unfold Builtin.List.listLengthHint
  refine wpAny_bind (wpAny_specialOf hT zip_no_len ?_)
  show wpAny _ A (specialOf (Value.ref z) (Str.ofString "__length_hint__") >>= _) _ _ _
  refine wpAny_bind (wpAny_specialOf hT zip_no_hint ?_)
  exact wpAny_pure h
/-- list(a zip of two lists that nobody has asked yet) -/
theorem list_zip {E : Value → Shared → Prop} {Q : Value → Shared → Prop} (hh : A.handled = none) (D : ZipApart z TI TO i1 i2 l1 l2) {n : Nat} (hx : n ≤ xs.size) (hy : n ≤ ys.size) (he : xs[n]? = none ∨ ys[n]? = none) (hn : n ≤ sizeLine)
    (hz : IsZip s.heap z TI TO .none) (hTI : IsPair s.heap TI (.ref i1) (.ref i2)) (hTO : ∃ a b, IsPair s.heap TO a b) (h1 : s.heap.IsListIter i1 l1 0) (h2 : s.heap.IsListIter i2 l2 0) (hl1 : s.heap.IsList l1 xs) (hl2 : s.heap.IsList l2 ys)
    (hQ : ∀ h' tk acc c as, (∀ b u, b ≠ z → b ≠ TO → b ≠ i1 → b ≠ i2 → s.heap.get? b = some u → h'.get? b = some u) → h'.get? s.heap.objs.size = some { cls := .type "list", dict := none, data := .seq acc c, slots := #[] } → as.length = n → Prs xs ys (s.heap.objs.size + 1) h' as → acc.toList = as.map Value.ref →
      Q (.ref s.heap.objs.size) { s with heap := h', toks := tk }) : wpAny (model prog w) A (call (.type "list") [.ref z]) Q E s := by
  refine callType_codes (Q₁ := fun obj s₁ => obj = .ref s.heap.objs.size ∧ s₁ = { s with heap := s.heap.push { cls := .type "list", data := .seq #[] } }) PySem.F.called_list (PySem.F.typeCall_list_1 _) PySem.F.entry_list_init
    (code_list_new _ ⟨rfl, rfl⟩) fun obj s₁ h₁ => ?_
  obtain ⟨rfl, rfl⟩ := h₁
  have hS : (s.heap.push { cls := .type "list", data := .seq #[] }).get? s.heap.objs.size = some { cls := .type "list", data := .seq #[] } := Heap.get?_push_size _ rfl
  have kp : ∀ b u, s.heap.get? b = some u → (s.heap.push { cls := .type "list", data := .seq #[] }).get? b = some u := fun b u e => Heap.get?_push_of_some _ e
  have lt : ∀ {c u}, s.heap.get? c = some u → c < s.heap.objs.size := fun e => Heap.lt_size e
  have zl := lt hz
  have TIl := lt hTI
  have TOl : TO < s.heap.objs.size := let ⟨_, _, e⟩ := hTO; lt e
  have i1l : i1 < s.heap.objs.size := let ⟨_, e, _⟩ := h1; lt e
  have i2l : i2 < s.heap.objs.size := let ⟨_, e, _⟩ := h2; lt e
  have l1l : l1 < s.heap.objs.size := let ⟨_, e, _⟩ := hl1; lt e
  have l2l : l2 < s.heap.objs.size := let ⟨_, e, _⟩ := hl2; lt e
  have off : Off z TI TO i1 i2 l1 l2 s.heap.objs.size := ⟨Nat.ne_of_lt zl, Nat.ne_of_lt TIl, Nat.ne_of_lt TOl, Nat.ne_of_lt i1l, Nat.ne_of_lt i2l, Nat.ne_of_lt l1l, Nat.ne_of_lt l2l⟩
  refine ⟨⟨_, hS, rfl⟩, PySem.F.args_list_init_2 _ _, ?_⟩
  generalize hhp : s.heap.push { cls := .type "list", data := .seq #[] } = hp at hS kp
  have hpz : hp.objs.size = s.heap.objs.size + 1 := by rw [← hhp, Heap.size_push]
  show wpAny _ _ (do let old ← Builtin.List.listItems (.ref s.heap.objs.size); Builtin.List.listUpdate (.ref s.heap.objs.size) (fun _ => #[]); letGo old.toList.reverse; Builtin.List.listExtendWith (.ref s.heap.objs.size) (.ref z) .none) _ _ _
  refine wpAny_bind ?_
  unfold Builtin.List.listItems
  refine wpAny_bind (wpAny_seqItems hS rfl (wpAny_pure ?_))
  show wpAny _ _ (updateSeq s.heap.objs.size (fun _ => #[]) >>= fun _ => letGo (#[] : Array Value).toList.reverse >>= fun _ => Builtin.List.listExtendWith (.ref s.heap.objs.size) (.ref z) .none) _ _ _
  refine wpAny_bind (wpAny_updateSeq hS rfl ?_)
  have hS₂ := Heap.get?_update_self (Obj.mapSeq (fun _ => (#[] : Array Value))) hS rfl
  have oth : ∀ b u, b ≠ s.heap.objs.size → hp.get? b = some u → (hp.update s.heap.objs.size (Obj.mapSeq (fun _ => (#[] : Array Value)))).get? b = some u :=
    fun b u hb e => (Heap.get?_update_other _ _ (Ne.symm hb)).trans e
  generalize hp.update s.heap.objs.size (Obj.mapSeq (fun _ => (#[] : Array Value))) = hp2 at hS₂ oth
  refine wpAny_bind (wpAny_letGo ?_)
  have old : ∀ b u, s.heap.get? b = some u → hp2.get? b = some u := fun b u e => oth b u (Nat.ne_of_lt (lt e)) (kp b u e)
  unfold Builtin.List.listExtendWith
  have hz2 : IsZip hp2 z TI TO .none := old _ _ hz
  refine wpAny_bind (wpAny_typeOf (T := "zip") ⟨_, hz2, rfl⟩ ?_)
  have g1 : Builtin.List.listSameRef (.ref s.heap.objs.size) (.ref z) = false := by simp [Builtin.List.listSameRef, Ne.symm off.z]
  have g2 : (Value.type "zip" == Value.type "list") = false := by decide
  have g3 : (Value.type "zip" == Value.type "tuple") = false := by decide
  simp only [g1, g2, g3, Bool.or_false, Bool.false_eq_true, if_false]
  refine wpAny_bind (wpAny_pyIter_zip hz2 ?_)
  refine wpAny_bind (wpAny_holding (zs_hint ⟨_, hz2, rfl⟩ ?_))
  simp only [Bool.true_or, if_true]
  refine wpAny_bind (wpAny_rule ?_)
  refine wpAny_bind ?_
  show wpAny _ _ (updateSeq s.heap.objs.size (·.push .none) >>= fun _ => updateSeq s.heap.objs.size (·.pop)) _ _ _
  refine wpAny_bind (wpAny_updateSeq hS₂ rfl ?_)
  have hS₃ := Heap.get?_update_self (Obj.mapSeq (·.push Value.none)) hS₂ rfl
  refine wpAny_updateSeq (hz := by seq_fits) hS₃ rfl ?_
  have hS₄ := Heap.get?_update_self (Obj.mapSeq (·.pop)) hS₃ rfl
  have old2 : ∀ b u, b ≠ s.heap.objs.size → hp2.get? b = some u → ((hp2.update s.heap.objs.size (Obj.mapSeq (·.push Value.none))).update s.heap.objs.size (Obj.mapSeq (·.pop))).get? b = some u :=
    fun b u hb e => (Heap.get?_update_other _ _ (Ne.symm hb)).trans ((Heap.get?_update_other _ _ (Ne.symm hb)).trans e)
  generalize (hp2.update s.heap.objs.size (Obj.mapSeq (·.push Value.none))).update s.heap.objs.size (Obj.mapSeq (·.pop)) = hp3 at hS₄ old2
  have old3 : ∀ b u, s.heap.get? b = some u → hp3.get? b = some u := fun b u e => old2 b u (Nat.ne_of_lt (lt e)) (old b u e)
  have hN : s.heap.objs.size + 1 ≤ hp3.objs.size := Heap.lt_size hS₄
  refine wpAny_pure ⟨plainId_quiet PySem.F.plain_extend_loop _, zs_loop (A := A.in1) (s := s) (h0 := s.heap) (n := n) (N := s.heap.objs.size + 1) hh D off hx hy he hn .none ⟨Nat.lt_succ_of_lt zl, Nat.lt_succ_of_lt TOl, Nat.lt_succ_of_lt i1l, Nat.lt_succ_of_lt i2l, Nat.lt_succ_self _⟩ (fun h' tk acc c as k1 k2 k3 k4 k5 => ?_) n 0 hp3 _ _ #[] [] (Nat.sub_zero _) (Nat.zero_le _)
    ⟨old3 _ _ hTI, h1.at fun u e => old3 _ u e, h2.at fun u e => old3 _ u e, hl1.at fun u e => old3 _ u e, hl2.at fun u e => old3 _ u e, .inl ⟨old3 _ _ hz, let ⟨a, b, e⟩ := hTO; ⟨a, b, old3 _ _ e⟩⟩⟩ (fun b u _ _ _ _ _ e => old3 b u e) hS₄ rfl rfl (fun j a hj => by simp at hj) hN⟩
  exact ⟨rfl, hQ h' tk acc c as (fun b u h2 h3 h4 h5 e => k1 b u (Nat.ne_of_lt (lt e)) h2 h3 h4 h5 e) k2 k3 k4 k5⟩
end
end TX

/-! Rules that the hand layer lacks: list(zip(xs, ys)), min of a tuple, sorted of a list of data, enumerate of a tuple, a dict comprehension stored in a name. -/
namespace TX
open PySem PySem.Spec PyProof.Rows L2
/-! ### several new objects at once -/
section
variable {X : Cx} {pins : List (Addr × Obj)} {σ : L2.St} {H H' : Hp} {s : Shared} {h' : Heap}
theorem laidM {t' : Nat} (I : Inv X pins σ H s) (k : ∀ b u, s.heap.get? b = some u → h'.get? b = some u) (e : ∀ b o, s.heap.get? b = some o → H' b = H b)
    (new : ∀ b o, H' b = some o → (∃ u, s.heap.get? b = some u) ∨ ObjOk X.prog X.w H' h' b o) : Inv X pins σ H' { s with heap := h', toks := t' } := by
  have up : ∀ b o, H b = some o → H' b = some o := fun b o q => by
    have hb := (I.hok b o q).lt
    cases z : s.heap.get? b with
    | none =>
      exfalso
      have := I.hok b o q
      cases o with
      | lst xs => obtain ⟨_, _, _, _, y⟩ := this; rw [z] at y; cases y
      | tup xs => obtain ⟨_, _, _, y⟩ := this; obtain ⟨_, y, _⟩ := y; rw [z] at y; cases y
      | dK kvs => obtain ⟨_, _, _, _, o, _, _, y, _⟩ := this; rw [z] at y; cases y
      | dT kvs => obtain ⟨_, _, _, _, o, _, _, y, _⟩ := this; rw [z] at y; cases y
      | set S n => obtain ⟨o, _, _, _, y, _⟩ := this; rw [z] at y; cases y
      | ins C dx fs => obtain ⟨_, _, _, y, _⟩ := this; rw [z] at y; cases y
      | own y => obtain ⟨_, y⟩ := this; rw [z] at y; cases y
      | xd fs => obtain ⟨_, ⟨_, _, _, y, _⟩, _⟩ := this; rw [z] at y; cases y
      | rng lo hi => obtain ⟨_, _, _, y⟩ := this; rw [z] at y; cases y
      | frz ob u => obtain ⟨y, _⟩ := this; rw [z] at y; cases y
      | tbl ps => have y : s.heap.get? b = some _ := this; rw [z] at y; cases y
      | met f y => have y : s.heap.get? b = some _ := this; rw [z] at y; cases y
      | ext φ => obtain ⟨_, ⟨_, y⟩, _⟩ := this; rw [z] at y; cases y
    | some u => rw [e b u z]; exact q
  refine I.un ⟨fun b u q _ _ _ => k b u q, fun b u q _ _ _ => ⟨u.slots, k b u q⟩, fun b u q n _ => by rw [e b u q]; exact n, fun b u q _ => ⟨u, k b u q⟩, fun b xs q => up b _ q, fun b o u q => up b _ q, fun b ps q => ⟨#[], by rw [up b _ q]; simp⟩⟩ fun b o q => ?_
  rcases new b o q with ⟨u, z⟩ | z
  · rw [e b u z] at q
    exact (I.hok b o q).stay (fun c v _ y => k c v y) (fun c y => up c _ y) fun c xs y => up c _ y
  · exact z
end
/-! ### list(zip(xs, ys)) -/
def tLZ (K : PySem.W.Frag) (ta : TA) : TE := fun σ H Q => ta σ H fun vs H1 => ∃ a b xs ys, vs = [.ref a, .ref b] ∧ SqL K H1 a xs ∧ SqL K H1 b ys ∧
  ∀ (H' : Hp) (l : Addr) (ts : List Addr), (∀ c o, H1 c = some o → H' c = some o) → H1 l = none → H' l = some (.lst (ts.map V.ref)) → ts.length = min xs.length ys.length → (∀ (i : Nat) (t : Addr) (x y : V), ts[i]? = some t → xs[i]? = some x → ys[i]? = some y → H1 t = none ∧ t ≠ l ∧ H' t = some (.tup [x, y])) → Q (.ref l) H'
theorem pe_lzip {X : Cx} {e e2 : Expr} {ta : TA} {p p2 q pos : Pos} (hg : Gl X "list") (hm : X.mg "list" = none) (hg2 : Gl X "zip") (hm2 : X.mg "zip" = none) (ha : PA X [e, e2] ta) (hc : X.calm = true := by rfl)
    (na : starEach [e, e2] X.env = (false, eval e X.env) :: starEach [e2] X.env := by rfl) (nb : (backTo q (starEach [e2] X.env)).any (·.1) = false := by rfl)
    (nc : starEach [.Call (.Name "zip" p2) [e, e2] [] q] X.env = (false, eval (.Call (.Name "zip" p2) [e, e2] [] q) X.env) :: starEach [] X.env := by rfl) : PE X (.Call (.Name "list" p) [.Call (.Name "zip" p2) [e, e2] [] q] [] pos) (tLZ X.K ta) := by
  refine ⟨fun pins s σ H Q I h => ?_⟩
  refine Call_ (ld_blt I hg hm boot_list ?_)
  refine PyProof.Rows.callWith_type1 (PyProof.Rows.args_cons ?_ nc) nc rfl
  refine Call_ (ld_blt I hg2 hm2 PyProof.Rows.boot_zip (PyProof.Rows.callWith_type1 (thn (ha.run q pins s σ H _ I h) fun us s1 ⟨vs, H1, I1, r1, q1⟩ => ?_) na nb))
  obtain ⟨a, b, xs, ys, rfl, hqx, hqy, q1⟩ := q1
  obtain ⟨u1, u2, rfl, ra, rb⟩ := vals2 r1
  obtain rfl : u1 = Value.ref a := ra
  obtain rfl : u2 = Value.ref b := rb
  obtain ⟨its, rv, p1, hz1⟩ := I1.list hqx
  obtain ⟨its2, rv2, p2', hz2⟩ := I1.list hqy
  have la : a < s1.heap.objs.size := p1.lt
  have lb : b < s1.heap.objs.size := p2'.lt
  refine call_zip_2 p1.isList p2'.isList fun h2 hz hTI hTO h1 h2' hsz hk => ?_
  refine PyProof.Rows.args_nil ?_
  have hl1 : (min xs.length ys.length) ≤ its.toArray.size := by rw [List.size_toArray, ← rv.length]; exact Nat.min_le_left _ _
  have hl2 : (min xs.length ys.length) ≤ its2.toArray.size := by rw [List.size_toArray, ← rv2.length]; exact Nat.min_le_right _ _
  have he : its.toArray[min xs.length ys.length]? = none ∨ its2.toArray[min xs.length ys.length]? = none := by
    by_cases z : xs.length ≤ ys.length
    · left
      rw [Nat.min_eq_left z]
      simp [← rv.length]
    · right
      rw [Nat.min_eq_right (by omega)]
      simp [← rv2.length]
  refine list_zip (s := { s1 with heap := h2 }) (I1.ok.hd hc) (PySem.W.ktu_apart s1.heap.objs.size a b la lb) hl1 hl2 he (Nat.le_trans (Nat.min_le_left _ _) hz1) hz hTI ⟨_, _, hTO⟩ h1 h2' (Heap.IsList.at p1.isList fun o e => hk _ o e) (Heap.IsList.at p2'.isList fun o e => hk _ o e) fun h3 tk acc c as k1 kS kl kP ka => ?_
  dsimp only at k1 kS kP ⊢
  have sz2 : h2.objs.size = s1.heap.objs.size + 5 := hsz
  have old : ∀ b u, s1.heap.get? b = some u → h3.get? b = some u := fun b u e => by
    have hb : b < s1.heap.objs.size := Heap.lt_size e
    exact k1 b u (Nat.ne_of_lt (Nat.lt_of_lt_of_le hb (Nat.le_add_right _ _))) (Nat.ne_of_lt (Nat.lt_of_lt_of_le hb (Nat.le_add_right _ _))) (Nat.ne_of_lt hb) (Nat.ne_of_lt (Nat.lt_of_lt_of_le hb (Nat.le_add_right _ _))) (hk b u e)
  classical
  have hb2 : s1.heap.objs.size ≤ h2.objs.size := by rw [sz2]; exact Nat.le_add_right _ _
  -- the new heap
  let T : Addr → Prop := fun b => ∃ (j : Nat) (x y : V), as[j]? = some b ∧ xs[j]? = some x ∧ ys[j]? = some y
  let H2 : Hp := fun b => if b = h2.objs.size then some (.lst (as.map V.ref)) else if z : T b then some (.tup [(Classical.choose_spec z).choose, (Classical.choose_spec z).choose_spec.choose]) else H1 b
  have tUp : ∀ b, T b → h2.objs.size + 1 ≤ b := fun b ⟨j, x, y, z, _⟩ => (kP j b z).1
  have hT : ∀ (j : Nat) (b : Addr) (x y : V), as[j]? = some b → xs[j]? = some x → ys[j]? = some y → H2 b = some (.tup [x, y]) := by
    intro j b x y e1 e2 e3
    have z : T b := ⟨j, x, y, e1, e2, e3⟩
    have nb : b ≠ h2.objs.size := Nat.ne_of_gt (tUp b z)
    have eH : H2 b = some (.tup [(Classical.choose_spec z).choose, (Classical.choose_spec z).choose_spec.choose]) := by
      show (if b = h2.objs.size then _ else _) = _
      rw [if_neg nb, dif_pos z]
    obtain ⟨f1, f2, f3⟩ := (Classical.choose_spec z).choose_spec.choose_spec
    rw [eH]
    obtain ⟨_, v1, v2, g1, g2, g3⟩ := kP j b e1
    obtain ⟨_, w1, w2, g4, g5, g6⟩ := kP _ b f1
    have gg : IsPair h3 b v1 v2 := g3
    unfold IsPair at gg g6
    rw [gg] at g6
    have ev : v1 = w1 ∧ v2 = w2 := by simpa using g6
    obtain ⟨u, hu, ru⟩ := rv.get e2
    obtain ⟨u', hu', ru'⟩ := rv2.get e3
    obtain ⟨t, ht, rt⟩ := rv.get f2
    obtain ⟨t', ht', rt'⟩ := rv2.get f3
    have a1 : u = v1 := by
      have := hu.symm.trans (by simpa using g1)
      exact Option.some.inj this
    have a2 : u' = v2 := Option.some.inj (hu'.symm.trans (by simpa using g2))
    have a3 : t = w1 := Option.some.inj (ht.symm.trans (by simpa using g4))
    have a4 : t' = w2 := Option.some.inj (ht'.symm.trans (by simpa using g5))
    rw [a1] at ru
    rw [a2] at ru'
    rw [a3, ← ev.1] at rt
    rw [a4, ← ev.2] at rt'
    rw [RelV.inj ru rt, RelV.inj ru' rt']
  have hold : ∀ b o, s1.heap.get? b = some o → H2 b = H1 b := fun b o e => by
    have hb : b < s1.heap.objs.size := Heap.lt_size e
    show (if b = h2.objs.size then _ else _) = _
    rw [if_neg (Nat.ne_of_lt (Nat.lt_of_lt_of_le hb hb2)), dif_neg fun z => ?_]
    have h5 := tUp b z
    exact absurd (Nat.lt_of_lt_of_le hb (Nat.le_trans hb2 (Nat.le_trans (Nat.le_succ _) h5))) (Nat.lt_irrefl _)
  have fresh : ∀ b, h2.objs.size ≤ b → H1 b = none := fun b hb => I1.hok.fresh (Nat.le_trans hb2 hb)
  have l0 : H2 h2.objs.size = some (.lst (as.map V.ref)) := if_pos rfl
  have pk : ∀ (j : Nat) (b : Addr), as[j]? = some b → ∃ x y, xs[j]? = some x ∧ ys[j]? = some y := by
    intro j b e
    have hj : j < min xs.length ys.length := by
      rw [← kl]
      exact (List.getElem?_eq_some_iff.mp e).1
    exact ⟨xs[j], ys[j], List.getElem?_eq_getElem (by omega), List.getElem?_eq_getElem (by omega)⟩
  have I3 : Inv X pins σ H2 { s1 with heap := h3, toks := tk } := laidM I1 old hold fun b o e => by
    by_cases n1 : b = h2.objs.size
    · subst n1
      rw [l0] at e
      cases e
      right
      refine ⟨by rw [List.length_map, kl]; exact Nat.le_trans (Nat.min_le_left _ _) hz1, as.map Value.ref, c, ?_, ?_⟩
      · have : ∀ l : List Addr, Vals (l.map V.ref) (l.map Value.ref) := fun l => by
          induction l with
          | nil => exact .nil
          | cons a l ih => exact .cons rfl ih
        exact this as
      · rw [kS, ← ka]
    · by_cases z : T b
      · obtain ⟨j, x, y, e1, e2, e3⟩ := z
        right
        rw [hT j b x y e1 e2 e3] at e
        cases e
        obtain ⟨_, v1, v2, g1, g2, g3⟩ := kP j b e1
        obtain ⟨u, hu, ru⟩ := rv.get e2
        obtain ⟨u', hu', ru'⟩ := rv2.get e3
        have a1 : u = v1 := Option.some.inj (hu.symm.trans (by simpa using g1))
        have a2 : u' = v2 := Option.some.inj (hu'.symm.trans (by simpa using g2))
        exact ⟨by show 2 ≤ sizeLine; decide, [v1, v2], .cons (a1 ▸ ru) (.cons (a2 ▸ ru') .nil), ⟨_, g3, rfl, _, rfl⟩⟩
      · left
        have e' : H1 b = some o := by
          rw [← e]
          show _ = (if b = h2.objs.size then _ else _)
          rw [if_neg n1, dif_neg z]
        have hb := (I1.hok b o e').lt
        cases y : s1.heap.get? b with
        | some u => exact ⟨u, rfl⟩
        | none =>
          exfalso
          obtain ⟨u, hu⟩ : ∃ u, s1.heap.get? b = some u := by
            have := I1.hok b o e'
            cases o with
            | lst xs => obtain ⟨_, _, _, _, y⟩ := this; exact ⟨_, y⟩
            | tup xs => obtain ⟨_, _, _, y⟩ := this; obtain ⟨_, y, _⟩ := y; exact ⟨_, y⟩
            | dK kvs => obtain ⟨_, _, _, _, o, _, _, y, _⟩ := this; exact ⟨_, y⟩
            | dT kvs => obtain ⟨_, _, _, _, o, _, _, y, _⟩ := this; exact ⟨_, y⟩
            | set S n => obtain ⟨o, _, _, _, y, _⟩ := this; exact ⟨_, y⟩
            | ins C dx fs => obtain ⟨_, _, _, y, _⟩ := this; exact ⟨_, y⟩
            | own y => obtain ⟨_, y⟩ := this; exact ⟨_, y⟩
            | xd fs => obtain ⟨_, ⟨_, _, _, y, _⟩, _⟩ := this; exact ⟨_, y⟩
            | rng lo hi => obtain ⟨_, _, _, y⟩ := this; exact ⟨_, y⟩
            | frz ob u => obtain ⟨y, _⟩ := this; exact ⟨_, y⟩
            | tbl ps => exact ⟨_, this⟩
            | met f y => exact ⟨_, this⟩
            | ext φ => obtain ⟨_, ⟨_, y⟩, _⟩ := this; exact ⟨_, y⟩
          rw [y] at hu
          cases hu
  refine ⟨.ref h2.objs.size, H2, I3, rfl, q1 H2 h2.objs.size as (fun b o e => ?_) (fresh _ (Nat.le_refl _)) l0 kl fun i t x y e1 e2 e3 => ?_⟩
  · have hb := (I1.hok b o e).lt
    have n1 : b ≠ h2.objs.size := Nat.ne_of_lt (Nat.lt_of_lt_of_le hb hb2)
    show (if b = h2.objs.size then _ else _) = _
    rw [if_neg n1, dif_neg fun z => ?_]
    · exact e
    · have h5 := tUp b z
      exact absurd (Nat.lt_of_lt_of_le hb (Nat.le_trans hb2 (Nat.le_trans (Nat.le_succ _) h5))) (Nat.lt_irrefl _)
  · have h5 := tUp t ⟨i, x, y, e1, e2, e3⟩
    exact ⟨fresh t (Nat.le_trans (Nat.le_succ _) h5), Nat.ne_of_gt h5, hT i t x y e1 e2 e3⟩
end TX

/-! Rules, 2: min of a tuple of data, sorted of a list of data. -/
namespace TX
open PySem PySem.Spec PyProof.Rows L2
section
variable {X : Cx}
theorem dpget {K : PySem.W.Frag} {H : Hp} : ∀ {xs : List V} {ds : List PyData} {i : Nat} {v : V} {d : PyData}, DpAll K H xs ds → xs[i]? = some v → ds[i]? = some d → Dp K H v d
  | _, _, i, _, _, .nil, h, _ => by simp at h
  | _, _, 0, v, d, .cons r _, h1, h2 => by
    simp only [List.getElem?_cons_zero, Option.some.injEq] at h1 h2
    subst h1 h2
    exact r
  | _, _, i + 1, v, d, .cons _ t, h1, h2 => by
    simp only [List.getElem?_cons_succ] at h1 h2
    exact dpget t h1 h2
theorem dplen {K : PySem.W.Frag} {H : Hp} : ∀ {xs : List V} {ds : List PyData}, DpAll K H xs ds → xs.length = ds.length
  | _, _, .nil => rfl
  | _, _, .cons _ t => congrArg (· + 1) (dplen t)
/-- min of a tuple of data: the item itself -/
def rMinD (K : PySem.W.Frag) : List V → Hp → VK → Prop := fun vs H Q => ∃ (a : Addr) (xs : List V) (x : PyData) (ds : List PyData), vs = [.ref a] ∧ SqT K H a xs ∧ DpAll K H xs (x :: ds) ∧ PySem.W.AlikeAll (x :: ds) ∧ PyData.depthAll (x :: ds) ≤ 40 ∧
  ∀ (i : Nat) (v : V), xs[i]? = some v → (x :: ds)[i]? = some (PySem.W.minD x ds) → Q v H
theorem minD_mem (x : PyData) (xs : List PyData) : PySem.W.minD x xs ∈ x :: xs := by
  unfold PySem.W.minD
  induction xs generalizing x with
  | nil => exact List.mem_cons_self
  | cons y r ih =>
    rw [List.foldl_cons]
    split
    · exact List.mem_cons_of_mem _ (ih y)
    · rcases List.mem_cons.mp (ih x) with h | h
      · rw [h]; exact List.mem_cons_self
      · exact List.mem_cons_of_mem _ (List.mem_cons_of_mem _ h)
theorem call_minD (hc : X.calm = true) (hu : X.A.units + 64 < cLine) : CallR X (.builtin "min") (rMinD X.K) := by
  intro pins s σ H vs us Q I r h
  obtain ⟨a, xs, x, ds, rfl, hs, hd, hal, hdp, q⟩ := h
  obtain ⟨its, rv, hl, hz⟩ := I.tuple hs
  obtain ⟨u, rfl, ru⟩ := vals1 r
  obtain rfl : u = Value.ref a := ru
  obtain ⟨as, hr⟩ := Dp.readsAll I (x :: ds) xs its hd rv
  refine PySem.W.min_tuple_data (I.ok.hd hc) (show s.heap.IsTuple a its.toArray from hl) (by simpa using hr) hal (by omega) fun i v h' tk bs hv hrd hk => ?_
  have hv2 : its[i]? = some v := by simpa using hv
  have hi : i < xs.length := by
    rw [rv.length]
    exact (List.getElem?_eq_some_iff.mp hv2).1
  have ex : xs[i]? = some xs[i] := List.getElem?_eq_getElem hi
  obtain ⟨u, hu1, ru1⟩ := rv.get ex
  have eu : u = v := Option.some.inj (hu1.symm.trans hv2)
  subst eu
  have hi2 : i < (x :: ds).length := by rw [← dplen hd]; exact hi
  have ed : (x :: ds)[i]? = some (x :: ds)[i] := List.getElem?_eq_getElem hi2
  have hD := dpget hd ex ed
  obtain ⟨cs, hr2⟩ := Dp.reads I _ _ _ hD ru1
  have e := PySem.W.alike_unique _ _ _ _ _ (hal.1 _ (List.getElem_mem hi2) _ (minD_mem x ds)) (Reads.keeps hk hr2) hrd
  exact ⟨xs[i], H, I.kept hk, ru1, q i _ ex (ed.trans (congrArg some e))⟩
/-- sorted of a list of data -/
def rSortD (K : PySem.W.Frag) : List V → Hp → VK → Prop := fun vs H Q => ∃ (a : Addr) (xs : List V) (β : Type) (enc : β → PyData) (bs : List β) (R : V → β → Prop), vs = [.ref a] ∧ SqL K H a xs ∧ PySem.W.EachIs R xs bs ∧ DpAll K H xs (bs.map enc) ∧ PySem.W.AllAlike (bs.map enc) ∧ PySem.W.Sortable (bs.map enc) ∧ bs.length ≤ sizeLine ∧ (∀ b ∈ bs, (enc b).depth ≤ 20) ∧
  ∀ (ys : List V) (p : Addr), PySem.W.EachIs R ys (bs.mergeSort (PySem.W.dataLe false enc)) → H p = none → Q (.ref p) (upd H p (.lst ys))
theorem each_of {β : Type} {R : V → β → Prop} : ∀ {vs : List V} {us : List Value} {bs : List β}, PySem.W.EachIs R vs bs → Vals vs us → PySem.W.EachIs (fun u b => ∃ v, RelV v u ∧ R v b) us bs
  | _, _, _, .nil, r => by cases r; exact .nil
  | _, _, _, .cons h t, r => by
    cases r with
    | cons r1 r2 => exact .cons ⟨_, r1, h⟩ (each_of t r2)
theorem each_back {β : Type} {R : V → β → Prop} : ∀ {us : List Value} {bs : List β}, PySem.W.EachIs (fun u b => ∃ v, RelV v u ∧ R v b) us bs → ∃ vs, Vals vs us ∧ PySem.W.EachIs R vs bs
  | _, _, .nil => ⟨[], .nil, .nil⟩
  | _, _, .cons ⟨v, r, h⟩ t => let ⟨vs, a, b⟩ := each_back t; ⟨v :: vs, .cons r a, .cons h b⟩
theorem call_sortD (hu : X.A.units + 64 < cLine) : CallR X (.builtin "sorted") (rSortD X.K) := by
  intro pins s σ H vs us Q I r h
  obtain ⟨a, xs, β, enc, bs, R, rfl, hs, hR, hd, hal, hk, hL, hdp, q⟩ := h
  obtain ⟨its, rv, hl, hz⟩ := I.list hs
  obtain ⟨u, rfl, ru⟩ := vals1 r
  obtain rfl : u = Value.ref a := ru
  obtain ⟨as, hr⟩ := Dp.readsAll I (bs.map enc) xs its hd rv
  refine PySem.W.sorted_data hl.isList (each_of hR rv) (PySem.W.readsAll_each enc hr) hal hk hL (fun b hb => ?_) fun out ho eo => ?_
  · have := hdp b hb
    omega
  · obtain ⟨ys, r1, r2⟩ := each_back eo
    obtain ⟨ep, he'⟩ := PyProof.Rows.sortedAll_at s.heap its (List.toArray out)
    have hlen : ys.length ≤ sizeLine := by
      rw [r1.length, ho]
      exact hL
    exact ⟨.ref _, upd H (s.heap.objs.size + 1) (.lst ys), I.laid (t' := s.toks) (fun _ _ => PyProof.Rows.sortedAll_old) (Nat.le_succ _) ⟨hlen, out, ep, r1, he'⟩, rfl, q ys _ r2 (I.hok.fresh (Nat.le_succ _))⟩
end
end TX
/-! ### enumerate(tuple) -/
namespace TX
open PySem PySem.Spec PyProof.Rows L2
theorem meets_enumerate_newT (l : Addr) (items : Array Value) :
    Meets (Builtin.«enumerate.__new__» ⟨[.type "enumerate", .ref l], []⟩) (fun _ R s => s.heap.IsTuple l items ∧
      R (.ok (.ret (.ref (s.heap.push { cls := .type "tuple_iterator", data := .fields #[.ref l, .int 0 0] }).objs.size)))
        { s with heap := (s.heap.push { cls := .type "tuple_iterator", data := .fields #[.ref l, .int 0 0] }).push { cls := .type "enumerate", data := .fields #[.none, .bool false, .ref s.heap.objs.size, rawInt 0, .none, .none] } }) :=
  .of_wp fun prog w A R s h => by
    obtain ⟨hp, g, d, tk, os⟩ := s; obtain ⟨hl, h⟩ := h
    have hsub := sub_enumerate
    have hL : Heap.IsTuple (Shared.heap ⟨hp, g, d, tk, os⟩) l items := hl
    wp_walk
    refine wpAny_stack_any fun st => wpAny_pure ?_
    split
    · rename_i c _ _ _ _ _
      cases (c == Value.type "enumerate")
      · wp_walk using wpAny_pyIter_tuple hL
        exact ⟨_, rfl, h⟩
      · wp_walk using wpAny_pyIter_tuple hL
        exact ⟨_, rfl, h⟩
    · wp_walk using wpAny_pyIter_tuple hL
      exact ⟨_, rfl, h⟩
theorem call_enumerate_tuple {prog : Program} {w : World} {A : Around} {E : Value → Shared → Prop} {s : Shared} {l : Addr} {items : Array Value} {Q : Value → Shared → Prop} (hL : s.heap.IsTuple l items)
    (h : ∀ h', IsEnum h' (s.heap.objs.size + 1) s.heap.objs.size 0 .none → h'.IsTupleIter s.heap.objs.size l 0 → h'.objs.size = s.heap.objs.size + 2 →
      (∀ b o, s.heap.get? b = some o → h'.get? b = some o) → Q (.ref (s.heap.objs.size + 1)) { s with heap := h' }) :
    wpAny (model prog w) A (call (.type "enumerate") [.ref l]) Q E s := by
  refine callType_new F.called_enumerate (by decide) (F.typeCall_enumerate_1 _) (F.newCall_enumerate_1 _) (fun obj => F.args_object_init_2 obj _) F.entry_enumerate_new
    (meets_enumerate_newT l items) ⟨hL, ?_⟩
  have hz : (s.heap.push { cls := .type "tuple_iterator", data := .fields #[.ref l, .int 0 0] }).objs.size = s.heap.objs.size + 1 := Heap.size_push ..
  show _ ∧ _
  rw [hz]
  have he : IsEnum ((s.heap.push { cls := .type "tuple_iterator", data := .fields #[.ref l, .int 0 0] }).push
      { cls := .type "enumerate", data := .fields #[.none, .bool false, .ref s.heap.objs.size, rawInt 0, .none, .none] }) (s.heap.objs.size + 1) s.heap.objs.size 0 .none := by
    have := Heap.get?_push_size (s.heap.push { cls := .type "tuple_iterator", data := .fields #[.ref l, .int 0 0] })
      (o := { cls := .type "enumerate", data := .fields #[.none, .bool false, .ref s.heap.objs.size, rawInt 0, .none, .none] }) rfl
    rw [hz] at this; exact this
  refine ⟨⟨_, he, rfl⟩, h _ he ⟨_, Heap.get?_push_of_some _ (Heap.get?_push_size _ rfl), rfl, rfl⟩ (by rw [Heap.size_push, hz]) fun b o x => Heap.get?_push_of_some _ (Heap.get?_push_of_some _ x)⟩
/-- the tuple at a, each item in a new pair with its place -/
def IteT (K : PySem.W.Frag) (a : Addr) : It :=
  ⟨fun i H => ∃ (xs : List V) (x : V), SqT K H a xs ∧ xs[i]? = some x, fun i H v H' => ∃ T x, v = .ref T ∧ H T = none ∧ H' = upd H T (.tup [.int (i : Nat), x]) ∧ ∀ xs, SqT K H a xs → xs[i]? = some x, fun i H => ∃ xs : List V, SqT K H a xs ∧ xs.length = i⟩
theorem turn_enumT {P : Program} {w : World} {K : PySem.W.Frag} {elts : List Expr} {kk : Nat} {tpos : Pos} (a e it : Addr) (hai : a ≠ it) (hea : e ≠ a) :
    Turn P w K (.Tuple elts kk tpos) (IteT K a) [e, it] e (fun i h => (∃ old, IsEnum h e it ((i : Nat) : Int) old) ∧ h.IsTupleIter it a i ∧ e ≠ it) where
  mem := by simp
  obj := fun i h st b hb => by
    obtain ⟨⟨old, he⟩, ⟨o, ho, hc, hd⟩, _⟩ := st
    have e' : b = e ∨ b = it := by simpa using hb
    rcases e' with z | z
    · rw [z]; exact ⟨_, he, fun v q => nomatch q⟩
    · rw [z]; exact ⟨o, ho, fun v q => by rw [hd] at q; cases q⟩
  keep := fun i h h' st k => let ⟨⟨old, he⟩, hi, hne⟩ := st; ⟨⟨old, k e (by simp) _ he⟩, hi.at fun o q => k it (by simp) o q, hne⟩
  item := by
    intro X hP hw hK hc i pins s σ H E I hf st hg
    subst hP hw hK
    obtain ⟨⟨old, he⟩, hit, hne⟩ := st
    obtain ⟨xs, x, hq, hx⟩ := hg
    obtain ⟨its, rv, p, hz⟩ := I.tuple hq
    obtain ⟨u, hu, ru⟩ := rv.get hx
    have hel : e < s.heap.objs.size := Heap.lt_size he
    have hil : it < s.heap.objs.size := by obtain ⟨_, q, _⟩ := hit; exact Heap.lt_size q
    have hi : i < its.toArray.size := by
      rw [List.size_toArray]
      exact (List.getElem?_eq_some_iff.mp hu).1
    refine wpAny_pyNext_enum_itemC (Draws.tuple (A := X.A.in1) (I.ok.hd hc) it a hai its.toArray) he ⟨hit, p⟩ hi hne (by simp [hne, hea]) fun x' h' tk hP ho hst hT hsz hk => ?_
    have ex : x' = u := Option.some.inj (hP.symm.trans (by simpa using hu))
    subst ex
    obtain ⟨hit', _⟩ := hst
    refine ⟨_, rfl, wpAny_letOwnedTupleGo_enum (s := { s with heap := h', toks := tk + 1 }) ho fun h'' he' sb => ?_⟩
    have hT2 : h''.get? s.heap.objs.size = some { cls := .type "tuple", data := .seq #[.int i tk, x'] } := (sb.2 _ (Nat.ne_of_gt hel)).trans hT
    have new : ObjOk X.prog X.w (upd H s.heap.objs.size (.tup [.int (i : Nat), x])) h'' s.heap.objs.size (.tup [.int (i : Nat), x]) :=
      ⟨by show 2 ≤ sizeLine; decide, [.int i tk, x'], .cons ⟨_, rfl⟩ (.cons ru .nil), ⟨_, hT2, rfl, _, rfl⟩⟩
    have I1 : Inv X pins σ (upd H s.heap.objs.size (.tup [.int (i : Nat), x])) { s with heap := h'', toks := tk + 1 } :=
      I.turnedNew (ch := [e, it]) (fun b ob hb q => (sb.2 b (fun z => hb (by simp [z]))).trans (hk b ob (fun z => hb (by simp [z])) (fun z => hb (by simp [z])) q)) hf (Nat.le_refl _) new
    refine ⟨.ref s.heap.objs.size, _, I1, rfl, ⟨_, x, rfl, I.hok.fresh (Nat.le_refl _), rfl, fun ys hy => by rw [I.tuple_inj hy hq]; exact hx⟩, ⟨⟨x', ?_⟩, hit'.at fun o q => (sb.2 it (Ne.symm hne)).trans q, hne⟩, fun b hb => ?_⟩
    · have e1 : ((i + 1 : Nat) : Int) = (i : Int) + 1 := by omega
      rw [e1]; exact he'
    · have hb' : b < s.heap.objs.size := by
        have e' : b = e ∨ b = it := by simpa using hb
        rcases e' with z | z
        · rw [z]; exact hel
        · rw [z]; exact hil
      rw [upd_ne (Nat.ne_of_lt hb')]
      exact (hf b hb).1
  done := by
    intro X hP hw hK hc i pins s σ H E I hf st hg
    subst hP hw hK
    obtain ⟨⟨old, he⟩, hit, hne⟩ := st
    obtain ⟨xs, hq, hx⟩ := hg
    obtain ⟨its, rv, p, hz⟩ := I.tuple hq
    obtain ⟨f0, f1, f2, f3, f4, f5⟩ := hf it (by simp)
    have hl := rv.length
    have ei : its.toArray.size = i := by
      rw [List.size_toArray]
      omega
    exact wpAny_pyNext_enum_endD (Draws.tuple (A := X.A.in1) (I.ok.hd hc) it a hai its.toArray) he ⟨by rw [ei]; exact hit, p⟩ fun h' eb => ⟨rfl, I.turned (t' := s.toks) (fun b o hb q => eb b o hb q) f0 f1 f3 f4 f5⟩
  self := fun A i s Q E st h => let ⟨⟨_, he⟩, _⟩ := st; wpAny_pyIter_enum he h
def iEnumT (K : PySem.W.Frag) (ta : TA) : TI := fun σ H R => ta σ H fun vs H1 => ∃ a xs, vs = [.ref a] ∧ SqT K H1 a xs ∧ R (IteT K a) H1
theorem pi_enumT {X : Cx} {e : Expr} {ta : TA} {p pos tpos : Pos} {elts : List Expr} {kk : Nat} (hg : Gl X "enumerate") (hm : X.mg "enumerate" = none) (ha : PA X [e] ta) (hs : starEach [e] X.env = [(false, eval e X.env)] := by rfl) :
    PI X (.Tuple elts kk tpos) (.Call (.Name "enumerate" p) [e] [] pos) (iEnumT X.K ta) := by
  refine ⟨fun pins s σ H R I h => ?_⟩
  refine Call_ (ld_blt I hg hm boot_enumerate (PyProof.Rows.callWith_type1 (thn (ha.run pos pins s σ H _ I h) fun us s1 ⟨vs, H1, I1, r1, q1⟩ => ?_) hs rfl))
  obtain ⟨a, xs, ex, hq, q⟩ := q1
  subst ex
  cases r1 with
  | cons r rr =>
    cases rr
    cases r
    obtain ⟨its, rv, p', hz⟩ := I1.tuple hq
    have hl : a < s1.heap.objs.size := p'.lt
    refine call_enumerate_tuple (show s1.heap.IsTuple a its.toArray from p') fun h' he hit hsz hk => wpAny_pyIter_enum he ?_
    have I2 : Inv X pins σ H1 { s1 with heap := h' } := I1.kept (t' := s1.toks) hk
    refine ⟨s1.heap.objs.size + 1, [s1.heap.objs.size + 1, s1.heap.objs.size], _, _, H1, rfl, I2, turn_enumT a (s1.heap.objs.size + 1) s1.heap.objs.size (Nat.ne_of_lt hl) (Nat.ne_of_gt (Nat.lt_succ_of_lt hl)), ⟨⟨.none, he⟩, hit, Nat.succ_ne_self _⟩, fun b hb => ?_, q⟩
    have e' : b = s1.heap.objs.size + 1 ∨ b = s1.heap.objs.size := by simpa using hb
    have hle : s1.heap.objs.size ≤ b := by
      rcases e' with z | z
      · rw [z]; exact Nat.le_add_right _ _
      · rw [z]; exact Nat.le_refl _
    exact I1.fpOk hle (I1.hok.fresh hle)
end TX

/-! name = {k: v for ..} on one line, the name a local. -/
namespace TX
open PySem PySem.Spec PyProof.Rows L2
section
variable {X : Cx}
theorem sw_trueD {kx vx : Expr} {gs : List Comprehension} {scope : Scope} {pos py : Pos} {y : Str} {l : Nat} {env : Env} (hk : env.scope.kind = .function) (hy : env.scope.names.lookup y = some .local) (hl : (py.line == pos.line) = true)
    (ha : (scope.names.any fun (n, k) => n == y && (k == .local || k == .cell)) = false) : swapsWith (.DictComp kx vx gs scope pos) (some (.Name y py)) l env = pure true := by
  have ky : env.kindOf y = some .local := hy
  have hb : env.blockKind = .function := by unfold Env.blockKind; rw [hk]; rfl
  unfold swapsWith
  simp only [hb, ky, ha, Expr.pos, hl]
  rfl
theorem ps_setDc {i : Nat} {y : Str} {py : Pos} {kx vx tg iter : Expr} {ifs : List Expr} {scope : Scope} {own : List (Str × Nat)} {pos spos : Pos} {wi : TI} {g : TG} {tt : TT} {tk tv : TE} (hc : X.calm = true) (hN : X.N.Nodup) (hy : X.N[i]? = some y) (hyl : X.env.scope.names.lookup y = some .local)
    (hsw : swapsWith (.DictComp kx vx [⟨tg, iter, ifs, 0⟩] scope pos) (some (.Name y py)) spos.line X.env = pure true) (hi : PI X tg iter wi) (ok : BlkOk X.N X.env.scope scope own)
    (hg : ∀ (s : Shared) (H : Hp) (C : Addr) (cl : List (Str × Addr)) (fp : List Addr), PG (X.blk s H scope (compEnvC scope cl C X.env) fp) tg g) (ht : ∀ (s : Shared) (H : Hp) (C : Addr) (cl : List (Str × Addr)) (fp : List Addr), PTs (X.blk s H scope (compEnvC scope cl C X.env) fp) ifs tt)
    (hk : ∀ (s : Shared) (H : Hp) (C : Addr) (cl : List (Str × Addr)) (fp : List Addr), PE (X.blk s H scope (compEnvC scope cl C X.env) fp) kx tk)
    (he : ∀ (s : Shared) (H : Hp) (C : Addr) (cl : List (Str × Addr)) (fp : List Addr), PE (X.blk s H scope (compEnvC scope cl C X.env) fp) vx tv) (hs : ∀ x, foldedSetIterable iter X.env x = pure x := by intro _; rfl) :
    PS X (.Assign [.Name y py] (.DictComp kx vx [⟨tg, iter, ifs, 0⟩] scope pos) spos) (tAsg (tDc wi g tt tk tv (own.map (·.2))) (gName i)) := by
  refine ⟨fun pins s σ H D I h => ?_⟩
  rw [exec_Assign_Name_used _ _ _ _ hsw]
  refine wpAny_bind (wpAny_standAt (wpAny_bind ?_))
  show wpAny _ X.A (do let _ ← comprehension (.DictComp kx vx [⟨tg, iter, ifs, 0⟩] scope pos) scope X.env (firstIterPos [⟨tg, iter, ifs, 0⟩] pos) newDict false (eval iter X.env) (some (assign (.Name y py) X.env))) _ _ s
  have h : tDc wi g tt tk tv (own.map (·.2)) σ H (fun x H1 => gName i x σ H1 D.nx) := h
  refine wpAny_bind (thn (dc_core (Qf := fun _ s' => SP X pins D .next s') hc hN I hi ok hg ht hk he hs h fun L C s' m H' I' q hn f => ?_) fun _ s' hq => wpAny_pure (wpAny_pure hq))
  show wpAny _ _ (assign (.Name y py) X.env (.ref L)) _ _ _
  refine wpAny_assign_Name (store_ok2 (v := V.ref L) I' hN hy (.inl hyl) rfl (fun s2 I2 ⟨a, sb, ha⟩ => ?_) (.inr hyl))
  obtain ⟨f0, f1, f2, f3, f4, f5⟩ := f
  have haC : C ≠ a := by
    rcases ha with z | z
    · rw [z]; exact f1
    · exact fun e => f4 y a z e.symm
  refine ⟨m, hn.sameBut sb haC, fun h3 sb3 => ?_⟩
  exact ⟨_, H', I2.turned (t' := s2.toks) (fun b o hb e => (sb3.2 b hb).trans e) f0 f1 f3 f4 f5, q⟩
end
end TX

/-! The program's defs by their places; what the head has to tell of them; calls. -/
namespace TA
open PySem PySem.Spec L2
/-- what the head finds: the class Painter, the tuple UNITS, the dict FITTING -/
structure Cst where
  w : World
  C : Addr
  aU : Addr
  aF : Addr
abbrev uD : D := .tup (unitsL.map D.int)
/-- a def that stands at the module's name x and keeps sp -/
structure Has (P : Program) (w : World) (K : PySem.W.Frag) (mg : Str → Option Value) (base : Heap) (k : Nat) (x : Str) (ps : List Str) (sp : Sp) : Prop where
  ex : ∃ f fd, FnOk P w K mg base CX0 k f fd ps sp ∧ mg x = some (.ref f) ∧ PySem.W.keepIn K (.ref f) = true ∧ Binds K fd ps [] ∧ ∀ (s : Shared) (us : List Value), us.length = ps.length → BindsTo s fd ⟨us, []⟩ (ps.zip us)
structure HasMk (P : Program) (w : World) (K : PySem.W.Frag) (mg : Str → Option Value) (base : Heap) (C : Addr) (k : Nat) (x : Str) (ps : List Str) (sp : Sp) : Prop where
  ex : ∃ f fd, Mk K C f ∧ FnOk P w K mg base CX0 k f fd ps sp ∧ mg x = some (.ref C) ∧ Binds K fd ps []
structure HasMt (P : Program) (w : World) (K : PySem.W.Frag) (mg : Str → Option Value) (base : Heap) (C : Addr) (k : Nat) (m : Str) (ps : List Str) (sp : Sp) : Prop where
  ex : ∃ f fd, Cls K C ∧ Meth K C m f ∧ FnOk P w K mg base CX0 k f fd ps sp ∧ Binds K fd ps []
abbrev FnP (K : PySem.W.Frag) (x : Str) (st : Stmt) (f : Addr) (fd : FuncData) : Prop := FunD K x x (defArgs st) (defBody st) (defScope st) [] [] f fd
structure Fx (K : PySem.W.Frag) (mg : Str → Option Value) (Z : Cst) (frL : List Str) (giL : List (Str × Int)) (gsL : List (Str × Str)) (dfL : List (Str × Stmt)) (mi mc : Stmt) : Prop where
  fr : ∀ (i : Nat) (x : Str), frL[i]? = some x → mg x = none
  gi : ∀ (i : Nat) (p : Str × Int), giL[i]? = some p → ∃ t, mg p.1 = some (.int p.2 t)
  gs : ∀ (i : Nat) (p : Str × Str), gsL[i]? = some p → ∃ t, mg p.1 = some (.str p.2 t)
  df : ∀ (i : Nat) (p : Str × Stmt), dfL[i]? = some p → ∃ f fd, FnP K p.1 p.2 f fd ∧ mg p.1 = some (.ref f)
  cls : Cls K Z.C
  mgC : mg "Painter" = some (.ref Z.C)
  na : ∀ x ∈ (["look", "edges", "point", "square"] : List Str), NoAttr K Z.C x
  mkr : ∃ f fd, Mk K Z.C f ∧ FunD K "__init__" "Painter.__init__" (defArgs mi) (defBody mi) (defScope mi) [] [] f fd
  mt : ∃ f fd, Meth K Z.C "covers" f ∧ FunD K "covers" "Painter.covers" (defArgs mc) (defBody mc) (defScope mc) [] [] f fd
  mgU : mg "UNITS" = some (.ref Z.aU)
  un : ∀ G : Hp, SqT K G Z.aU (unitsL.map V.int)
  mgF : mg "FITTING" = some (.ref Z.aF)
  fit : ∀ p ∈ ([("fill", ["area"]), ("stroke", ["line", "area"]), ("dot", ["point"])] : List (Str × List Str)), ∃ a, KDct K Z.w Z.aF p.1 (.ref a) ∧ ∀ G : Hp, SqT K G a (p.2.map V.str)
section
variable {X : Cx} {x : Str} {p pos apos : Pos} {e o : Expr} {es : List Expr} {k j : Nat} {ps : List Str} {sp : Sp} {t : TA} {ta : TE} {C : Addr} {m : Str}
theorem pe_has (h : Has X.prog X.w X.K X.mg X.base k x ps sp) (hr : Room j X.A) (hk : k ≤ j) (hg : Gl X x) (ha : PA X (e :: es) t) (hdb : (x == ("__debug__" : Str)) = false := by decide)
    (he : starEach (e :: es) X.env = (false, eval e X.env) :: starEach es X.env := by rfl) (hpl : (backTo pos (starEach es X.env)).any (·.1) = false := by rfl) : PE X (.Call (.Name x p) (e :: es) [] pos) (tCall sp [] E0 t) := by
  obtain ⟨f, fd, F, g, kp, b, _⟩ := h.ex
  exact pe_call F (hr.mono hk) hg g kp b .nil pass0 ha hdb he hpl
theorem pe_hasMk (h : HasMk X.prog X.w X.K X.mg X.base C k x ps sp) (hr : Room j X.A) (hk : k + 1 ≤ j) (hg : Gl X x) (ha : PA X (e :: es) t) (hdb : (x == ("__debug__" : Str)) = false := by decide)
    (he : starEach (e :: es) X.env = (false, eval e X.env) :: starEach es X.env := by rfl) (hpl : (backTo pos (starEach es X.env)).any (·.1) = false := by rfl) : PE X (.Call (.Name x p) (e :: es) [] pos) (tMake C sp [] E0 t) := by
  obtain ⟨f, fd, M, F, g, b⟩ := h.ex
  exact pe_make M F (hr.mono hk) hg g b .nil pass0 ha hdb he hpl
theorem pe_hasMt {pl : Sem Bool} (he : PE X o ta) (h : HasMt X.prog X.w X.K X.mg X.base C k m ps sp) (hr : Room j X.A) (hk : k ≤ j) (ha : PA X (e :: es) t)
    (hst : starEach (e :: es) X.env = (false, eval e X.env) :: starEach es X.env := by rfl) (hpl : (backTo pos (starEach es X.env)).any (·.1) = false := by rfl)
    (ht : eval (.Call (.Attribute o m apos) (e :: es) [] pos) X.env = (do
      let ov ← eval o X.env
      standAt apos.atName
      let (f, first) ← holding [ov] (getMethod ov m pl)
      callWith pos f first (backTo pos (starEach (e :: es) X.env)) (backToKw pos (keywordEach [] X.env))) := by rfl) :
    PE X (.Call (.Attribute o m apos) (e :: es) [] pos) (tMeth C m sp [] E0 ta t) := by
  obtain ⟨f, fd, c, M, F, b⟩ := h.ex
  exact pe_meth (pl := pl) he c M F (hr.mono hk) b .nil pass0 ha hst hpl ht
theorem pe_gi {i : Int} (h : ∃ t, X.mg x = some (.int i t)) (hg : Gl X x) (hd : (x == ("__debug__" : Str)) = false := by decide) : PE X (.Name x pos) (tC (.int i)) := by
  obtain ⟨t, h⟩ := h
  exact pe_glob hg h ⟨t, rfl⟩ hd
theorem pe_gs {i : Str} (h : ∃ t, X.mg x = some (.str i t)) (hg : Gl X x) (hd : (x == ("__debug__" : Str)) = false := by decide) : PE X (.Name x pos) (tC (.str i)) := by
  obtain ⟨t, h⟩ := h
  exact pe_glob hg h ⟨t, rfl⟩ hd
theorem pe_gr {a : Addr} (h : X.mg x = some (.ref a)) (hg : Gl X x) (hd : (x == ("__debug__" : Str)) = false := by decide) : PE X (.Name x pos) (tC (.ref a)) := pe_glob hg h rfl hd
theorem pe_ty {n : String} (hm : X.mg x = none) (hg : Gl X x) (hv : bootBuiltins x = some (.type n)) (hn : x ≠ "__name__" := by decide) (hd : (x == ("__debug__" : Str)) = false := by decide) : PE X (.Name x pos) (tC (.ty n)) := pe_bltn hg hm hv rfl hn hd
end
end TA

/-! The data layer, 7: guards, all and any of comprehensions. -/
namespace TA
open PySem L2
section
variable {K : PySem.W.Frag} {C : Addr} {de : List Sl} {om om1 om2 : Om} {ds : List D} {d x : D} {te ta tb : TE} {tr : TA} {wi : TI} {g : TG} {tt tu : TT} {t u : TS} {P : Post} {vs : List Nat}
theorem td_or2 (h1 : TD K C tt de om false om1) (h2 : TD K C tu de om1 false om1) : TD K C (tOr tt tu) de om false om1 := td_or h1 fun _ => h2
theorem td_and2 (h1 : TD K C tt de om true om1) (h2 : TD K C tu de om1 true om1) : TD K C (tAnd tt tu) de om true om1 := td_and h1 fun _ => h2
theorem ed_and2 (ha : ED K C ta de om (.bl true) om1) (hb : ED K C tb de om1 (.bl true) om1) : ED K C (tAndV ta tb) de om (.bl true) om1 := ed_and ha fun _ => hb
theorem td_n (h : TD K C tt de om true om1) : TD K C (tNot tt) de om false om1 := td_not h
theorem sd_ifF (h : TD K C tt de om false om1) (h2 : SD K C u de om1 P) : SD K C (tIfS tt t u) de om P := sd_if h (fun e => by cases e) fun _ => h2
theorem sd_ifT (h : TD K C tt de om true om1) (h2 : SD K C t de om1 P) : SD K C (tIfS tt t u) de om P := sd_if h (fun _ => h2) fun e => by cases e
theorem ed_isi {n ty : String} {b : Bool} (h : ED K C te de om d om1) (ht : tyD d = some ty) (hk : kitB ty n = some b) : ED K C (tCB (rIsi K) (tCons te (tCons (tC (.ty n)) tNil))) de om (.bl b) om1 := ed_cb (ad_cons h (ad_cons ed_ty ad_nil)) (cd_isi ht hk)
theorem ed_lenT (h : ED K C te de om (.tup ds) om1) : ED K C (tCB (rLenA K) (tCons te tNil)) de om (.int ds.length) om1 := ed_cb (ad_cons h ad_nil) cd_lenT
theorem ed_lenL (h : ED K C te de om (.lst ds) om1) : ED K C (tCB (rLenA K) (tCons te tNil)) de om (.int ds.length) om1 := ed_cb (ad_cons h ad_nil) cd_lenL
theorem ed_lenS {s : Str} (h : ED K C te de om (.str s) om1) (hl : s.length ≤ 100000) : ED K C (tCB (rLenA K) (tCons te tNil)) de om (.int s.length) om1 := ed_cb (ad_cons h ad_nil) (cd_lenS hl)
theorem td_neF {i j : Int} (ha : ED K C ta de om (.int i) om1) (hb : ED K C tb de om1 (.int j) om2) (e : i = j) : TD K C (tTest (tOp rNe ta tb)) de om false om2 := td_is (td_test (ed_op ha hb od_neI)) (by simp [e])
/-- lo <= n <= hi -/
theorem ed_btw {i lo hi : Int} (ha : ED K C ta de om (.int lo) om1) (hb : ED K C te de om1 (.int i) om1) (hc : ED K C tb de om1 (.int hi) om1) (h : lo ≤ i ∧ i ≤ hi) : ED K C (tChain rLe rLe ta te tb) de om (.bl true) om1 :=
  ed_is (ed_chain ha hb od_le (fun _ => hc) fun _ => od_le) (by simp [h.1, h.2])
theorem td_btw {i lo hi : Int} (ha : ED K C ta de om (.int lo) om1) (hb : ED K C te de om1 (.int i) om1) (hc : ED K C tb de om1 (.int hi) om1) (h : lo ≤ i ∧ i ≤ hi) : TD K C (tTest (tChain rLe rLe ta te tb)) de om true om1 := td_test (ed_btw ha hb hc h)
/-- a comprehension without a test, nothing owned changed -/
theorem en_map (h : IL K C wi de om ds om1) (el : Nat → D) (hl : ds.length ≤ 50000)
    (ht : ∀ (i : Nat) (d : D), ds[i]? = some d → ∃ de2 ts, GD K C g d (wipD de vs) de2 ts ∧ (∀ j ∈ ts, j ∈ vs) ∧ ED K C te de2 om1 (el i) om1) :
    EN K C (tLc wi g tYes te vs) de om ((List.range ds.length).map el) om1 := by
  have q := en_lc (te := te) (tt := tYes) (vs := vs) (g := g) h (fun _ => true) el (fun _ => om1) rfl hl fun i d hi => by
    obtain ⟨de2, ts, h1, h2, h3⟩ := ht i d hi
    exact ⟨de2, ts, h1, h2, td_yes, by rw [if_pos rfl]; exact h3⟩
  rw [gen_all] at q
  exact q
theorem ed_allF (h : IL K C wi de om ds om1) (f : Nat → Bool) (hl : ds.length ≤ 50000)
    (ht : ∀ (i : Nat) (d : D), ds[i]? = some d → ∃ de2 ts, GD K C g d (wipD de vs) de2 ts ∧ (∀ j ∈ ts, j ∈ vs) ∧ ED K C te de2 om1 (.bl (f i)) om1) :
    ED K C (tCB (rAll K) (tCons (tLc wi g tYes te vs) tNil)) de om (.bl ((List.range ds.length).all f)) om1 := by
  have q := en_map (vs := vs) h (fun i => .bl (f i)) hl ht
  have e : ((List.range ds.length).map fun i => D.bl (f i)) = ((List.range ds.length).map f).map D.bl := by simp
  rw [e] at q
  exact ed_is (ed_cb (ad_cons (ed_frz q) ad_nil) cd_all) (by rw [List.all_map]; rfl)
theorem ed_anyF (h : IL K C wi de om ds om1) (f : Nat → Bool) (hl : ds.length ≤ 50000)
    (ht : ∀ (i : Nat) (d : D), ds[i]? = some d → ∃ de2 ts, GD K C g d (wipD de vs) de2 ts ∧ (∀ j ∈ ts, j ∈ vs) ∧ ED K C te de2 om1 (.bl (f i)) om1) :
    ED K C (tCB (rAny K) (tCons (tLc wi g tYes te vs) tNil)) de om (.bl ((List.range ds.length).any f)) om1 := by
  have q := en_map (vs := vs) h (fun i => .bl (f i)) hl ht
  have e : ((List.range ds.length).map fun i => D.bl (f i)) = ((List.range ds.length).map f).map D.bl := by simp
  rw [e] at q
  exact ed_is (ed_cb (ad_cons (ed_frz q) ad_nil) cd_any) (by rw [List.any_map]; rfl)
/-- all([..]), each true -/
theorem ed_allT (h : IL K C wi de om ds om1) (hl : ds.length ≤ 50000)
    (ht : ∀ (i : Nat) (d : D), ds[i]? = some d → ∃ de2 ts, GD K C g d (wipD de vs) de2 ts ∧ (∀ j ∈ ts, j ∈ vs) ∧ ED K C te de2 om1 (.bl true) om1) :
    ED K C (tCB (rAll K) (tCons (tLc wi g tYes te vs) tNil)) de om (.bl true) om1 := ed_is (ed_allF h (fun _ => true) hl ht) (by simp)
theorem ed_anyN (h : IL K C wi de om ds om1) (hl : ds.length ≤ 50000)
    (ht : ∀ (i : Nat) (d : D), ds[i]? = some d → ∃ de2 ts, GD K C g d (wipD de vs) de2 ts ∧ (∀ j ∈ ts, j ∈ vs) ∧ ED K C te de2 om1 (.bl false) om1) :
    ED K C (tCB (rAny K) (tCons (tLc wi g tYes te vs) tNil)) de om (.bl false) om1 := ed_is (ed_anyF h (fun _ => false) hl ht) (by simp)
/-- for, with a word on the turns besides -/
theorem sd_forP (h : IL K C wi de om ds om1) (ok : Nat → Prop) (df : Nat → List Sl) (of : Nat → Om) (h0 : Wk de (df 0)) (ho : (of 0).Sublist om1) (k0 : ok 0)
    (hs : ∀ (i : Nat) (d : D), ds[i]? = some d → ok i → ∃ de2 ts, GD K C g d (df i) de2 ts ∧ SD K C t de2 (of i) ⟨fun de' om' => ok (i + 1) ∧ Wk de' (df (i + 1)) ∧ (of (i + 1)).Sublist om', P.rt, P.nx, fun de' om' => ok (i + 1) ∧ Wk de' (df (i + 1)) ∧ (of (i + 1)).Sublist om'⟩)
    (hd : ok ds.length → P.nx (df ds.length) (of ds.length)) : SD K C (tFor wi g t) de om P := fun Z G H σ Dn R E => by
  refine h.2 G H σ R.st _ fun J G1 H1 g1 o1 W => ?_
  have R1 := R.step g1 o1 h.1 (R.st.sl.mono g1.g)
  refine ⟨fun i m σ2 H2 => i ≤ ds.length ∧ m = ds.length - i ∧ ok i ∧ ∃ G2, Same G1 G2 ∧ Rel Z K C G2 H2 σ2 (df i) (of i), ⟨ds.length, Nat.zero_le _, by omega, k0, G1, Same.refl _, R1.wk h0 ho⟩, ?_⟩
  rintro i m σ2 H2 ⟨hi, rfl, ki, G2, e2, R2⟩
  by_cases hlt : i < ds.length
  · refine .inr ⟨W.goes i G2 H2 hlt e2 R2.st.sub, fun σ3 H3 => i + 1 ≤ ds.length ∧ ok (i + 1) ∧ ∃ G3, Same G1 G3 ∧ Rel Z K C G3 H3 σ3 (df (i + 1)) (of (i + 1)), ?_, ?_⟩
    · rintro σ3 H3 ⟨h1, k3, G3, h2⟩
      exact ⟨ds.length - (i + 1), by omega, h1, rfl, k3, G3, h2⟩
    · intro x H3 hy
      obtain ⟨G3, d, g3, hdi, rx⟩ := W.yields i G2 H2 x H3 hlt e2 R2.st.sub hy
      obtain ⟨de2, ts, h3, h4⟩ := hs i d hdi ki
      have R3 := R2.step g3.weak (R2.st.on.grow g3) rfl (R2.st.sl.mono g3.g)
      refine h3 G3 H3 σ2 x g3.s R3.st.sl rx _ fun σ4 S4 _ => ?_
      have R4 : Rel Z K C G3 H3 σ4 de2 (of i) := ⟨⟨R3.st.sub, S4, R3.st.on⟩, R3.gr, R3.fr⟩
      have turn : ∀ G5 H5 σ5 de5 om5, Rel ⟨G3, H3, ads (of i)⟩ K C G5 H5 σ5 de5 om5 → (ok (i + 1) ∧ Wk de5 (df (i + 1)) ∧ (of (i + 1)).Sublist om5) → i + 1 ≤ ds.length ∧ ok (i + 1) ∧ ∃ G3, Same G1 G3 ∧ Rel Z K C G3 H5 σ5 (df (i + 1)) (of (i + 1)) :=
        fun G5 H5 σ5 de5 om5 R5 q => ⟨hlt, q.1, G5, Same.trans e2 (Same.trans g3.g R5.gr.g), (R4.then R5).wk q.2.1 q.2.2⟩
      exact h4 ⟨G3, H3, ads (of i)⟩ G3 H3 σ4 _ (Rel.here R4.st) ⟨turn, fun v G5 H5 d5 om5 g5 o5 r5 q => E.rt v G5 H5 d5 om5 (R4.comp g5) o5 r5 q, fun G5 H5 σ5 de5 om5 R5 q => E.nx G5 H5 σ5 de5 om5 (R4.then R5) q, turn⟩
  · have e : i = ds.length := by omega
    subst e
    exact .inl ⟨W.stops G2 H2 e2 R2.st.sub, E.nx G2 H2 σ2 _ _ R2 (hd ki)⟩
theorem v0 {l : List Sl} : ED K C (tVar 0) (.d d :: l) om d om := ed_var .z
theorem v1 {s0 : Sl} {l : List Sl} : ED K C (tVar 1) (s0 :: .d d :: l) om d om := ed_var (.s .z)
theorem v2 {s0 s1 : Sl} {l : List Sl} : ED K C (tVar 2) (s0 :: s1 :: .d d :: l) om d om := ed_var (.s (.s .z))
theorem v3 {s0 s1 s2 : Sl} {l : List Sl} : ED K C (tVar 3) (s0 :: s1 :: s2 :: .d d :: l) om d om := ed_var (.s (.s (.s .z)))
theorem v4 {s0 s1 s2 s3 : Sl} {l : List Sl} : ED K C (tVar 4) (s0 :: s1 :: s2 :: s3 :: .d d :: l) om d om := ed_var (.s (.s (.s (.s .z))))
theorem v5 {s0 s1 s2 s3 s4 : Sl} {l : List Sl} : ED K C (tVar 5) (s0 :: s1 :: s2 :: s3 :: s4 :: .d d :: l) om d om := ed_var (.s (.s (.s (.s (.s .z)))))
theorem v6 {s0 s1 s2 s3 s4 s5 : Sl} {l : List Sl} : ED K C (tVar 6) (s0 :: s1 :: s2 :: s3 :: s4 :: s5 :: .d d :: l) om d om := ed_var (.s (.s (.s (.s (.s (.s .z))))))
theorem v7 {s0 s1 s2 s3 s4 s5 s6 : Sl} {l : List Sl} : ED K C (tVar 7) (s0 :: s1 :: s2 :: s3 :: s4 :: s5 :: s6 :: .d d :: l) om d om := ed_var (.s (.s (.s (.s (.s (.s (.s .z)))))))
theorem v8 {s0 s1 s2 s3 s4 s5 s6 s7 : Sl} {l : List Sl} : ED K C (tVar 8) (s0 :: s1 :: s2 :: s3 :: s4 :: s5 :: s6 :: s7 :: .d d :: l) om d om := ed_var (.s (.s (.s (.s (.s (.s (.s (.s .z))))))))
theorem v9 {s0 s1 s2 s3 s4 s5 s6 s7 s8 : Sl} {l : List Sl} : ED K C (tVar 9) (s0 :: s1 :: s2 :: s3 :: s4 :: s5 :: s6 :: s7 :: s8 :: .d d :: l) om d om := ed_var (.s (.s (.s (.s (.s (.s (.s (.s (.s .z)))))))))
theorem v10 {s0 s1 s2 s3 s4 s5 s6 s7 s8 s9 : Sl} {l : List Sl} : ED K C (tVar 10) (s0 :: s1 :: s2 :: s3 :: s4 :: s5 :: s6 :: s7 :: s8 :: s9 :: .d d :: l) om d om := ed_var (.s (.s (.s (.s (.s (.s (.s (.s (.s (.s .z))))))))))
theorem v11 {s0 s1 s2 s3 s4 s5 s6 s7 s8 s9 s10 : Sl} {l : List Sl} : ED K C (tVar 11) (s0 :: s1 :: s2 :: s3 :: s4 :: s5 :: s6 :: s7 :: s8 :: s9 :: s10 :: .d d :: l) om d om := ed_var (.s (.s (.s (.s (.s (.s (.s (.s (.s (.s (.s .z)))))))))))
theorem v12 {s0 s1 s2 s3 s4 s5 s6 s7 s8 s9 s10 s11 : Sl} {l : List Sl} : ED K C (tVar 12) (s0 :: s1 :: s2 :: s3 :: s4 :: s5 :: s6 :: s7 :: s8 :: s9 :: s10 :: s11 :: .d d :: l) om d om := ed_var (.s (.s (.s (.s (.s (.s (.s (.s (.s (.s (.s (.s .z))))))))))))
theorem v13 {s0 s1 s2 s3 s4 s5 s6 s7 s8 s9 s10 s11 s12 : Sl} {l : List Sl} : ED K C (tVar 13) (s0 :: s1 :: s2 :: s3 :: s4 :: s5 :: s6 :: s7 :: s8 :: s9 :: s10 :: s11 :: s12 :: .d d :: l) om d om := ed_var (.s (.s (.s (.s (.s (.s (.s (.s (.s (.s (.s (.s (.s .z)))))))))))))
theorem w0 {s s' : Sl} {l : List Sl} : SetAt (s :: l) 0 s' (s' :: l) := .z
theorem w1 {s0 s s' : Sl} {l : List Sl} : SetAt (s0 :: s :: l) 1 s' (s0 :: s' :: l) := (.s .z)
theorem w2 {s0 s1 s s' : Sl} {l : List Sl} : SetAt (s0 :: s1 :: s :: l) 2 s' (s0 :: s1 :: s' :: l) := (.s (.s .z))
theorem w3 {s0 s1 s2 s s' : Sl} {l : List Sl} : SetAt (s0 :: s1 :: s2 :: s :: l) 3 s' (s0 :: s1 :: s2 :: s' :: l) := (.s (.s (.s .z)))
theorem w4 {s0 s1 s2 s3 s s' : Sl} {l : List Sl} : SetAt (s0 :: s1 :: s2 :: s3 :: s :: l) 4 s' (s0 :: s1 :: s2 :: s3 :: s' :: l) := (.s (.s (.s (.s .z))))
theorem w5 {s0 s1 s2 s3 s4 s s' : Sl} {l : List Sl} : SetAt (s0 :: s1 :: s2 :: s3 :: s4 :: s :: l) 5 s' (s0 :: s1 :: s2 :: s3 :: s4 :: s' :: l) := (.s (.s (.s (.s (.s .z)))))
theorem w6 {s0 s1 s2 s3 s4 s5 s s' : Sl} {l : List Sl} : SetAt (s0 :: s1 :: s2 :: s3 :: s4 :: s5 :: s :: l) 6 s' (s0 :: s1 :: s2 :: s3 :: s4 :: s5 :: s' :: l) := (.s (.s (.s (.s (.s (.s .z))))))
theorem w7 {s0 s1 s2 s3 s4 s5 s6 s s' : Sl} {l : List Sl} : SetAt (s0 :: s1 :: s2 :: s3 :: s4 :: s5 :: s6 :: s :: l) 7 s' (s0 :: s1 :: s2 :: s3 :: s4 :: s5 :: s6 :: s' :: l) := (.s (.s (.s (.s (.s (.s (.s .z)))))))
theorem w8 {s0 s1 s2 s3 s4 s5 s6 s7 s s' : Sl} {l : List Sl} : SetAt (s0 :: s1 :: s2 :: s3 :: s4 :: s5 :: s6 :: s7 :: s :: l) 8 s' (s0 :: s1 :: s2 :: s3 :: s4 :: s5 :: s6 :: s7 :: s' :: l) := (.s (.s (.s (.s (.s (.s (.s (.s .z))))))))
theorem w9 {s0 s1 s2 s3 s4 s5 s6 s7 s8 s s' : Sl} {l : List Sl} : SetAt (s0 :: s1 :: s2 :: s3 :: s4 :: s5 :: s6 :: s7 :: s8 :: s :: l) 9 s' (s0 :: s1 :: s2 :: s3 :: s4 :: s5 :: s6 :: s7 :: s8 :: s' :: l) := (.s (.s (.s (.s (.s (.s (.s (.s (.s .z)))))))))
theorem w10 {s0 s1 s2 s3 s4 s5 s6 s7 s8 s9 s s' : Sl} {l : List Sl} : SetAt (s0 :: s1 :: s2 :: s3 :: s4 :: s5 :: s6 :: s7 :: s8 :: s9 :: s :: l) 10 s' (s0 :: s1 :: s2 :: s3 :: s4 :: s5 :: s6 :: s7 :: s8 :: s9 :: s' :: l) := (.s (.s (.s (.s (.s (.s (.s (.s (.s (.s .z))))))))))
theorem w11 {s0 s1 s2 s3 s4 s5 s6 s7 s8 s9 s10 s s' : Sl} {l : List Sl} : SetAt (s0 :: s1 :: s2 :: s3 :: s4 :: s5 :: s6 :: s7 :: s8 :: s9 :: s10 :: s :: l) 11 s' (s0 :: s1 :: s2 :: s3 :: s4 :: s5 :: s6 :: s7 :: s8 :: s9 :: s10 :: s' :: l) := (.s (.s (.s (.s (.s (.s (.s (.s (.s (.s (.s .z)))))))))))
theorem w12 {s0 s1 s2 s3 s4 s5 s6 s7 s8 s9 s10 s11 s s' : Sl} {l : List Sl} : SetAt (s0 :: s1 :: s2 :: s3 :: s4 :: s5 :: s6 :: s7 :: s8 :: s9 :: s10 :: s11 :: s :: l) 12 s' (s0 :: s1 :: s2 :: s3 :: s4 :: s5 :: s6 :: s7 :: s8 :: s9 :: s10 :: s11 :: s' :: l) := (.s (.s (.s (.s (.s (.s (.s (.s (.s (.s (.s (.s .z))))))))))))
theorem w13 {s0 s1 s2 s3 s4 s5 s6 s7 s8 s9 s10 s11 s12 s s' : Sl} {l : List Sl} : SetAt (s0 :: s1 :: s2 :: s3 :: s4 :: s5 :: s6 :: s7 :: s8 :: s9 :: s10 :: s11 :: s12 :: s :: l) 13 s' (s0 :: s1 :: s2 :: s3 :: s4 :: s5 :: s6 :: s7 :: s8 :: s9 :: s10 :: s11 :: s12 :: s' :: l) := (.s (.s (.s (.s (.s (.s (.s (.s (.s (.s (.s (.s (.s .z)))))))))))))
theorem rngD_at {lo : Int} {n i : Nat} {d : D} (h : (rngD lo n)[i]? = some d) : i < n ∧ d = .int (lo + (i : Nat)) := by
  have hi : i < n := by
    have := (List.getElem?_eq_some_iff.mp h).1
    rw [rngD_len] at this
    exact this
  rw [rngD_get hi] at h
  exact ⟨hi, (Option.some.inj h).symm⟩
theorem dwnD_at {lo : Int} {n i : Nat} {d : D} (h : (dwnD lo n)[i]? = some d) : i < n ∧ d = .int (lo - (i : Nat)) := by
  have hi : i < n := by
    have := (List.getElem?_eq_some_iff.mp h).1
    rw [dwnD_len] at this
    exact this
  rw [dwnD_get hi] at h
  exact ⟨hi, (Option.some.inj h).symm⟩
theorem zipD_at {ds es : List D} {i : Nat} {d : D} (h : (zipD ds es)[i]? = some d) : ∃ a b, ds[i]? = some a ∧ es[i]? = some b ∧ d = .tup [a, b] := by
  have hi := (List.getElem?_eq_some_iff.mp h).1
  rw [zipD_len] at hi
  have h1 : ds[i]? = some ds[i] := List.getElem?_eq_getElem (by omega)
  have h2 : es[i]? = some es[i] := List.getElem?_eq_getElem (by omega)
  rw [zipD_get h1 h2] at h
  exact ⟨_, _, h1, h2, (Option.some.inj h).symm⟩
theorem runP {N : List Str} {R : List D → D → Prop} {n : Nat} (hR : ∀ ds d, R ds d → ds.length = n) (hN : n.ble N.length = true)
    (body : ∀ ds d, R ds d → SD K C t (ds.map Sl.d ++ List.replicate (N.length - ds.length) .no) [] ⟨fun _ _ => d = .non, fun d' _ => d' = d, fun _ _ => False, fun _ _ => False⟩) (vs : List V) (H : Hp) (Q : VK) (E : XK) (h : spD K C R vs H Q E) :
    t { nx := fun _ H' => Q .non H', rt := Q } (L2.start N vs) H := fn_pure (fun ds d h => by rw [hR ds d h]; exact Nat.le_of_ble_eq_true hN) body vs H Q E h
abbrev nle {n m : Nat} (h : n.ble m = true) : n ≤ m := Nat.le_of_ble_eq_true h
theorem mem1 {i : Nat} {vs : List Nat} (h : i ∈ vs) : ∀ j ∈ [i], j ∈ vs := fun j hj => by
  rw [List.mem_singleton.mp hj]
  exact h
theorem map_get {α : Type} {f : α → D} {l : List α} {i : Nat} {d : D} (h : (l.map f)[i]? = some d) : ∃ a, l[i]? = some a ∧ d = f a ∧ a ∈ l := by
  rw [List.getElem?_map] at h
  cases e : l[i]? with
  | none =>
    rw [e] at h
    cases h
  | some a =>
    rw [e] at h
    exact ⟨a, rfl, (Option.some.inj h).symm, List.mem_of_getElem? e⟩
end
end TA

/-! The data layer, 8: enumerate, sorted, list(zip), dicts, objects. -/
namespace TA
open PySem L2
section
variable {K : PySem.W.Frag} {C : Addr} {G G' H H' : Hp} {σ : L2.St} {de de' de1 : List Sl} {om om' om1 om2 : Om} {ds es : List D} {d x : D} {te ta tb tk tv : TE} {tr : TA} {wi : TI} {g : TG} {tt : TT} {t : TS} {P : Post} {vs : List Nat} {a : Addr} {i : Nat}
/-! enumerate -/
def enumD (ds : List D) : List D := (List.range ds.length).map fun i => .tup [.int (i : Nat), ds.getD i .non]
theorem enumD_len : (enumD ds).length = ds.length := by unfold enumD; simp
theorem enumD_get {i : Nat} {d : D} (h : ds[i]? = some d) : (enumD ds)[i]? = some (.tup [.int (i : Nat), d]) := by
  have hi := (List.getElem?_eq_some_iff.mp h).1
  unfold enumD
  rw [List.getElem?_map, List.getElem?_range hi, Option.map_some, List.getD_eq_getElem?_getD, h]
  rfl
theorem enumD_at {i : Nat} {x : D} (h : (enumD ds)[i]? = some x) : ∃ d, ds[i]? = some d ∧ x = .tup [.int (i : Nat), d] := by
  have hi := (List.getElem?_eq_some_iff.mp h).1
  rw [enumD_len] at hi
  have h1 : ds[i]? = some ds[i] := List.getElem?_eq_getElem hi
  rw [enumD_get h1] at h
  exact ⟨_, h1, (Option.some.inj h).symm⟩
theorem il_enumT (h : AD K C tr de om [.tup ds] om1) : IL K C (TX.iEnumT K tr) de om (enumD ds) om1 :=
  ⟨h.1, fun G H σ S R q => h.2 G H σ S _ fun vs G1 H1 g1 o1 r1 => by
    obtain ⟨v, rfl, r⟩ := r1.one_of
    obtain ⟨a, xs, rfl, hx, rx⟩ := r.tup_of
    refine ⟨a, xs, rfl, Same.seqT g1.s hx, q _ G1 H1 g1 o1 ⟨fun i G2 H2 hi e1 e2 => ?_, fun G2 H2 e1 e2 => ?_, fun i G2 H2 y H3 hi e1 e2 hy => ?_⟩⟩
    · rw [enumD_len] at hi
      have h1 : i < xs.length := by rw [rx.len]; omega
      exact ⟨xs, xs[i], Same.seqT e2 (Same.seqT e1 hx), by simp [h1]⟩
    · exact ⟨xs, Same.seqT e2 (Same.seqT e1 hx), by rw [enumD_len, rx.len]⟩
    · obtain ⟨T, x, rfl, hT, rfl, f1⟩ := hy
      obtain ⟨d, h1, h2⟩ := rx.getV (f1 xs (Same.seqT e2 (Same.seqT e1 hx)))
      exact ⟨_, _, Grow.new e2 hT, enumD_get h1, .tup (.inl (.inl upd_same)) (RpAll.new e2 hT (.cons (.int _) (.one (h2.mono e1))))⟩⟩
/-! sorted -/
theorem each_map {α : Type} {f : α → D} {R : V → α → Prop} (hR : ∀ v a, Rp K C G v (f a) → R v a) : ∀ {vs : List V} {l : List α}, RpAll K C G vs (l.map f) → PySem.W.EachIs R vs l
  | [], [], _ => .nil
  | [], _ :: _, h => by cases h
  | _ :: _, [], h => by cases h
  | v :: vs, a :: l, h => by
    cases h with
    | cons r t => exact .cons (hR _ _ r) (each_map hR t)
theorem each_rp {α : Type} {f : α → D} : ∀ {vs : List V} {l : List α}, PySem.W.EachIs (fun v a => Rp K C G v (f a)) vs l → RpAll K C G vs (l.map f)
  | _, _, .nil => .nil
  | _, _, .cons h t => .cons h (each_rp t)
theorem cn_sort {α : Type} {f : α → D} {l : List α} (hp : ∀ a ∈ l, (f a).pl = true) (hal : PySem.W.AllAlike (l.map fun a => (f a).py)) (hso : PySem.W.Sortable (l.map fun a => (f a).py)) (hl : l.length ≤ 100000) (hd : ∀ a ∈ l, (f a).py.depth ≤ 20) :
    CN K C (TX.rSortD K) [.lst (l.map f)] ((l.mergeSort (PySem.W.dataLe false fun a => (f a).py)).map f) := fun G H vs e r Q q => by
  obtain ⟨v, rfl, r1⟩ := r.one_of
  obtain ⟨a, xs, rfl, hx, r2⟩ := r1.lst_of
  have hpl : D.pls (l.map f) = true := by
    rw [D.pls_all, List.all_eq_true]
    intro d hd
    obtain ⟨z, hz, rfl⟩ := List.mem_map.mp hd
    exact hp z hz
  have r3 := r2.dp e hpl
  rw [D.pys_map, List.map_map] at r3
  refine ⟨a, xs, α, fun a => (f a).py, l, fun v a => Rp K C G v (f a), rfl, SqL.of (e _ _ hx), each_map (fun _ _ h => h) r2, r3, hal, hso, sz_le hl, hd, fun ys p hy hp => ?_⟩
  have gp : G p = none := by
    cases z : G p with
    | none => rfl
    | some u =>
      rw [e p u z] at hp
      cases hp
  exact q p ys G _ (Grow.newO e hp) hp gp upd_same (each_rp hy)
/-! list(zip) of two lists -/
theorem ed_lz (h : AD K C tr de om [.lst ds, .lst es] om1) : ED K C (TX.tLZ K tr) de om (.lst (zipD ds es)) om1 :=
  ⟨h.1, fun G H σ S Q q => h.2 G H σ S _ fun vs G1 H1 g1 o1 r1 => by
    obtain ⟨v, u, rfl, r, r'⟩ := r1.two_of
    obtain ⟨a, xs, rfl, hx, rx⟩ := r.lst_of
    obtain ⟨b, ys, rfl, hy, ry⟩ := r'.lst_of
    refine ⟨a, b, xs, ys, rfl, SqL.of (g1.s _ _ hx), SqL.of (g1.s _ _ hy), fun H2 l ts up nl hl hlen hts => ?_⟩
    have gf : ∀ p, H1 p = none → G1 p = none := fun p hp => by
      cases z : G1 p with
      | none => rfl
      | some u =>
        rw [g1.s p u z] at hp
        cases hp
    classical
    let G2 : Hp := fun p => if p = l ∨ p ∈ ts then H2 p else G1 p
    have key : ∀ p, (p = l ∨ p ∈ ts) → H1 p = none := fun p hp => by
      rcases hp with z | z
      · rw [z]; exact nl
      · obtain ⟨j, hj⟩ := List.mem_iff_getElem?.mp z
        have hjl := (List.getElem?_eq_some_iff.mp hj).1
        rw [hlen] at hjl
        exact (hts j p xs[j] ys[j] hj (List.getElem?_eq_getElem (by omega)) (List.getElem?_eq_getElem (by omega))).1
    have g12 : Same G1 G2 := fun p o e => by
      show (if p = l ∨ p ∈ ts then H2 p else G1 p) = _
      rw [if_neg fun z => by
        rw [gf p (key p z)] at e
        cases e]
      exact e
    have gr : Grow [] G1 H1 G2 H2 := by
      refine ⟨g12, fun p o _ e => up p o e, fun p hp => ?_, fun p _ h1 h2 => ?_, fun p o e => ?_⟩
      · cases z : H1 p with
        | none => exact absurd z hp
        | some o =>
          rw [up p o z]
          exact fun y => by cases y
      · show (if p = l ∨ p ∈ ts then H2 p else G1 p) = _
        rw [if_neg fun z => h1 (key p z)]
        exact h2
      · have e' : (if p = l ∨ p ∈ ts then H2 p else G1 p) = some o := e
        split at e'
        · exact e'
        · exact up p o (g1.s p o e')
    refine q _ G2 H2 (g1.trans gr.weak) (o1.grow gr) (.lst (xs := ts.map V.ref) ?_ ?_)
    · show (if l = l ∨ l ∈ ts then H2 l else G1 l) = _
      rw [if_pos (.inl rfl)]
      exact hl
    · have all : ∀ (us : List V) (fs : List D), us.length = fs.length → (∀ (j : Nat) (u : V) (f : D), us[j]? = some u → fs[j]? = some f → Rp K C G2 u f) → RpAll K C G2 us fs := by
        intro us
        induction us with
        | nil =>
          intro fs hl _
          cases fs with
          | nil => exact .nil
          | cons _ _ => cases hl
        | cons u us ih =>
          intro fs hl h
          cases fs with
          | nil => cases hl
          | cons f fs => exact .cons (h 0 u f rfl rfl) (ih fs (Nat.succ.inj hl) fun j u f h1 h2 => h (j + 1) u f (by simpa using h1) (by simpa using h2))
      refine all _ _ (by rw [List.length_map, hlen, zipD_len, rx.len, ry.len]) fun j u f h1 h2 => ?_
      rw [List.getElem?_map] at h1
      cases ht : ts[j]? with
      | none =>
        rw [ht] at h1
        cases h1
      | some t =>
        rw [ht] at h1
        have eu : u = .ref t := (Option.some.inj h1).symm
        subst eu
        obtain ⟨d1, d2, e1, e2, rfl⟩ := zipD_at h2
        obtain ⟨w1, k1, k2⟩ := rx.get e1
        obtain ⟨w2, k3, k4⟩ := ry.get e2
        have h3 := (hts j t w1 w2 ht k1 k3).2.2
        refine .tup (xs := [w1, w2]) (.inl (.inl ?_)) (.cons (k2.mono g12) (.one (k4.mono g12)))
        show (if t = l ∨ t ∈ ts then H2 t else G1 t) = _
        rw [if_pos (.inr (List.mem_of_getElem? ht))]
        exact h3⟩
/-! dicts -/
theorem lk_cons {β : Type} {f s : Str} {d : β} {l : List (Str × β)} : ((f, d) :: l).lookup s = if s = f then some d else l.lookup s := by
  rw [List.lookup_cons]
  by_cases h : s = f
  · subst h
    simp
  · rw [if_neg h]
    have : (s == f) = false := by simpa using h
    rw [this]
theorem putK_len {κ : Type} [DecidableEq κ] (ks : List (κ × V)) (k : κ) (v : V) : (putK ks k v).length ≤ ks.length + 1 := by
  unfold putK
  split
  · rw [List.length_map]
    exact Nat.le_succ _
  · rw [List.length_append]
    exact Nat.le_refl _
theorem RpKv.put {ks : List (Key × V)} {kvs : List (Str × D)} {s : Str} {v : V} {d : D} (h : RpKv K C G ks kvs) (r : Rp K C G v d) : RpKv K C G (putK ks (Sum.inr s) v) ((s, d) :: kvs) :=
  ⟨Nat.le_trans (putK_len _ _ _) (Nat.succ_le_succ h.1), fun z e q => by
    rw [lk_cons] at q
    rw [valV_put]
    by_cases hz : z = s
    · subst hz
      rw [if_pos rfl] at q
      rw [if_pos rfl]
      cases q
      exact ⟨v, rfl, r⟩
    · rw [if_neg hz] at q
      rw [if_neg fun y => hz (Sum.inr.inj y)]
      exact h.2 z e q⟩
theorem RpKv.nil : RpKv K C G [] [] := ⟨Nat.le_refl _, fun s d q => by cases q⟩
variable (K C) in
/-- te gives a new dict, not data -/
def EK (te : TE) (de : List Sl) (om : Om) (kvs : List (Str × D)) (om' : Om) : Prop :=
  ads om' = ads om ∧ ∀ G H σ, St0 K C G H σ de om → ∀ Q : VK, (∀ a ks G' H', Grow (ads om) G H G' H' → OnR K C G' H' om' → H a = none → G' a = none → H' a = some (.dK ks) → RpKv K C G' ks kvs → Q (.ref a) H') → te σ H Q
theorem ek_new : EK K C tDNewK de om [] om := ⟨rfl, fun G H σ S Q q p hp => by
  have gp : G p = none := by
    cases z : G p with
    | none => rfl
    | some u =>
      rw [S.sub p u z] at hp
      cases hp
  exact q p [] G _ (Grow.newO S.sub hp) (S.on.grow (Grow.newO S.sub hp)) hp gp upd_same .nil⟩
theorem sd_newK {kvs : List (Str × D)} (h : EK K C te de om kvs om1) (q : ∀ a, ∃ de', SetAt de i (.o a) de' ∧ P.nx de' (om1 ++ [(a, .k kvs)])) : SD K C (tAsg te (gName i)) de om P := fun Z G H σ Dn R E =>
  h.2 G H σ R.st _ fun a xs G1 H1 g1 o1 hn gn hx r1 => by
    obtain ⟨de', hs, q⟩ := q a
    have R1 := R.step g1 o1 h.1 ((R.st.sl.mono g1.g).setO hs)
    have nA : a ∉ ads om1 := fun z => by
      rw [h.1] at z
      obtain ⟨p0, h0, e0⟩ := List.mem_map.mp z
      have q1 := (R.st.on.at_ p0 h0).2.there
      rw [e0] at q1
      exact q1 hn
    refine E.nx G1 H1 _ de' _ ⟨⟨g1.s, R1.st.sl, ⟨fun p hp => ?_, ?_⟩⟩, R1.gr, fun p hp => ?_⟩ q
    · rcases List.mem_append.mp hp with z | z
      · exact o1.at_ p z
      · rw [List.mem_singleton.mp z]
        exact ⟨gn, xs, hx, r1⟩
    · rw [List.map_append, List.nodup_append]
      refine ⟨o1.nd, by simp, fun y hy z hz => ?_⟩
      have ez : z = a := by simpa using hz
      rw [ez]
      exact fun e => nA (e ▸ hy)
    · rcases List.mem_append.mp hp with z | z
      · exact R1.fr p z
      · rw [List.mem_singleton.mp z]
        left
        cases y : Z.H0 a with
        | none => rfl
        | some u => exact absurd hn (R.gr.p a (by rw [y]; exact fun z => by cases z))
theorem sd_dput {kvs : List (Str × D)} {s : Str} (m : At de i (.o a)) (hv : ED K C tv de om d om1) (hk : ED K C tk de om1 (.str s) om1) (ha : OmAt om1 a (.k kvs)) (hl : kvs.length < 100000) (hs : OmSet om1 a (.k ((s, d) :: kvs)) om2) (q : P.nx de om2) :
    SD K C (sDPut (tVar i) tk tv) de om P := fun Z G H σ Dn R E => by
  refine hv.2 G H σ R.st _ fun v G1 H1 g1 o1 r1 => ?_
  have R1 := R.step g1 o1 hv.1 (R.st.sl.mono g1.g)
  refine ⟨.ref a, R1.st.sl.o m, hk.2 G1 H1 σ R1.st _ fun u G2 H2 g2 o2 r2 => ?_⟩
  have R2 := R1.step g2 o2 rfl (R1.st.sl.mono g2.g)
  obtain ⟨ks, h1, h2⟩ := o2.k ha
  obtain rfl := r2.str_of
  refine ⟨a, _, rfl, DPut.k (k := (Sum.inr s : Key)) (v := v) h1 (Nat.lt_of_le_of_lt h2.1 (sz_lt hl)), ?_⟩
  exact E.nx G2 _ σ de om2 (R2.put hs ⟨_, upd_same, h2.put (r1.mono g2.g)⟩) q
theorem ed_dget {kvs : List (Str × D)} {s : Str} (m : At de i (.o a)) (hk : ED K C tk de om (.str s) om1) (ha : OmAt om1 a (.k kvs)) (hl : kvs.lookup s = some d) : ED K C (tDGet (tVar i) tk) de om d om1 :=
  ⟨hk.1, fun G H σ S Q q => ⟨.ref a, S.sl.o m, hk.2 G H σ S _ fun u G1 H1 g1 o1 r1 => by
    obtain ⟨ks, h1, h2⟩ := o1.k ha
    obtain rfl := r1.str_of
    obtain ⟨v, h3, h4⟩ := h2.2 s d hl
    refine ⟨a, v, rfl, ?_, q v G1 H1 g1 o1 h4⟩
    have := DGet.k (k := (Sum.inr s : Key)) h1
    rw [h3] at this
    exact this⟩⟩
theorem ek_dc (h : IL K C wi de om ds om1) (key : Nat → Str) (val : Nat → D) (kf : Nat → List (Str × D)) (k0 : kf 0 = []) (k1 : ∀ i, kf (i + 1) = (key i, val i) :: kf i) (hl : ds.length ≤ 50000)
    (ht : ∀ (i : Nat) (d : D), ds[i]? = some d → ∃ de2 ts, GD K C g d (wipD de vs) de2 ts ∧ (∀ j ∈ ts, j ∈ vs) ∧ ED K C tk de2 om1 (.str (key i)) om1 ∧ ED K C tv de2 om1 (val i) om1) :
    EK K C (tDc wi g tYes tk tv vs) de om (kf ds.length) om1 := by
  refine ⟨h.1, fun G H σ S Q q => h.2 G H σ S _ fun J G1 H1 g1 o1 W A hA => ?_⟩
  have S1 := S.step g1 o1
  have hA0 : H A = none := by
    cases z : H A with
    | none => rfl
    | some u => exact absurd hA (g1.p A (by rw [z]; exact fun y => by cases y))
  have gA1 : G1 A = none := by
    cases z : G1 A with
    | none => rfl
    | some u =>
      rw [g1.s A u z] at hA
      cases hA
  have nA : A ∉ ads om := fun z => by
    obtain ⟨p0, h0', e0⟩ := List.mem_map.mp z
    have q1 := (S.on.at_ p0 h0').2.there
    rw [e0] at q1
    exact q1 hA0
  have kl : ∀ i, (kf i).length = i := by
    intro i
    induction i with
    | zero => rw [k0]; rfl
    | succ i ih => rw [k1, List.length_cons, ih]
  refine ⟨fun i m H2 => i ≤ ds.length ∧ m = ds.length - i ∧ ∃ G2 ks, Grow (ads om) G1 H1 G2 H2 ∧ OnR K C G2 H2 om1 ∧ G2 A = none ∧ H2 A = some (.dK ks) ∧ RpKv K C G2 ks (kf i),
    ⟨ds.length, Nat.zero_le _, by omega, G1, [], Grow.newO S1.sub hA, o1.grow (Grow.newO S1.sub hA), gA1, upd_same, by rw [k0]; exact .nil⟩, ?_⟩
  rintro i m H2 ⟨hi, rfl, G2, ks, g2, o2, gA2, hks, rks⟩
  have S2 : SlR K C G2 σ de := S1.sl.mono g2.g
  by_cases hlt : i < ds.length
  · refine .inr ⟨W.goes i G2 H2 hlt g2.g g2.s, fun H3 => i + 1 ≤ ds.length ∧ ∃ G3 ks, Grow (ads om) G1 H1 G3 H3 ∧ OnR K C G3 H3 om1 ∧ G3 A = none ∧ H3 A = some (.dK ks) ∧ RpKv K C G3 ks (kf (i + 1)), ?_, ?_⟩
    · rintro H3 ⟨h1, G3, ks3, h2⟩
      exact ⟨ds.length - (i + 1), by omega, h1, rfl, G3, ks3, h2⟩
    · intro x H3 hy
      obtain ⟨G3, d, g3, hd, rx⟩ := W.yields i G2 H2 x H3 hlt g2.g g2.s hy
      obtain ⟨de2, ts, h3, h4, h5, h6⟩ := ht i d hd
      refine h3 G3 H3 (wipe σ vs) x g3.s ((S2.mono g3.g).wip vs) rx _ fun σ2 S3 w3 => ?_
      refine ⟨by rw [w3 vs h4, wipe_twice σ fun i hi => hi], ?_⟩
      have o3 := o2.grow g3
      have e3 : ads om1 = ads om := h.1
      have gA3 : G3 A = none := g3.n A (by simp) (by rw [hks]; exact fun z => by cases z) gA2
      have hA3 : H3 A = some (.dK ks) := g3.same A _ hks
      show tk σ2 H3 _
      refine h5.2 G3 H3 σ2 ⟨g3.s, S3, o3⟩ _ fun u G4 H4 g4 o4 r4 => ?_
      have g4' := (g2.trans (g3.weak (ow := ads om))).trans (e3 ▸ g4)
      have hA4 : H4 A = some (.dK ks) := g4.h A _ (e3 ▸ nA) hA3
      have gA4 : G4 A = none := g4.n A (e3 ▸ nA) (by rw [hA3]; exact fun z => by cases z) gA3
      refine h6.2 G4 H4 σ2 ⟨g4.s, S3.mono g4.g, o4⟩ _ fun v G5 H5 g5 o5 r5 => ?_
      have g5' := g4'.trans (e3 ▸ g5)
      have hA5 : H5 A = some (.dK ks) := g5.h A _ (e3 ▸ nA) hA4
      have gA5 : G5 A = none := g5.n A (e3 ▸ nA) (by rw [hA4]; exact fun z => by cases z) gA4
      have rl : RpKv K C G5 ks (kf i) := rks.mono (Same.trans g3.g (Same.trans g4.g g5.g))
      obtain rfl := r4.str_of
      refine ⟨ks, (Sum.inr (key i) : Key), rfl, hA5, ?_, by omega, G5, _, g5'.updO hA gA5, o5.updO (e3 ▸ nA), gA5, upd_same, ?_⟩
      · have := rl.1
        rw [kl] at this
        exact sz_lt (by omega)
      · rw [k1]
        exact rl.put r5
  · have e : i = ds.length := by omega
    subst e
    exact .inl ⟨W.stops G2 H2 g2.g g2.s, q A ks G2 H2 (g1.trans g2) o2 hA0 gA2 hks rks⟩
/-! objects -/
theorem RpFs.put {fs : List (Str × V)} {kfs : List (Str × D)} {f : Str} {v : V} {d : D} (h : RpFs K C G fs kfs) (hf : f ≠ ("covers" : Str)) (r : Rp K C G v d) : RpFs K C G (putF f v fs) ((f, d) :: kfs) := by
  refine ⟨?_, ?_, fun z e q => ?_⟩
  · have : ∀ l : List (Str × V), (putF f v l).length ≤ l.length + 1 := by
      intro l
      induction l with
      | nil => exact Nat.le_refl _
      | cons p l ih =>
        obtain ⟨g, x⟩ := p
        unfold putF
        split
        · simp
        · simp only [List.length_cons]
          omega
    exact Nat.le_trans (this fs) (Nat.succ_le_succ h.1)
  · rw [lookup_putF, if_neg fun z => hf z.symm]
    exact h.2.1
  · rw [lk_cons] at q
    rw [lookup_putF]
    by_cases hz : z = f
    · subst hz
      rw [if_pos rfl] at q
      rw [if_pos rfl]
      cases q
      exact ⟨v, rfl, r⟩
    · rw [if_neg hz] at q
      rw [if_neg hz]
      exact h.2.2 z e q
theorem sd_fld {kfs : List (Str × D)} {f : Str} (cls : Cls K C) (na : NoAttr K C f) (m : At de i (.o a)) (hv : ED K C tv de om d om1) (ha : OmAt om1 a (.ob kfs)) (hl : kfs.length ≤ 900) (hf : f ≠ ("covers" : Str)) (hs : OmSet om1 a (.ob ((f, d) :: kfs)) om2) (q : P.nx de om2) :
    SD K C (sFld K (tVar i) tv f) de om P := fun Z G H σ Dn R E => by
  refine hv.2 G H σ R.st _ fun v G1 H1 g1 o1 r1 => ?_
  have R1 := R.step g1 o1 hv.1 (R.st.sl.mono g1.g)
  obtain ⟨dx, fs, h1, h2⟩ := (o1.at_ _ ha.mem).2
  refine ⟨.ref a, R1.st.sl.o m, a, C, dx, fs, rfl, h1, cls, na, Nat.lt_of_le_of_lt h2.1 (Nat.lt_of_le_of_lt hl (by decide)), ?_⟩
  exact E.nx G1 _ σ de om2 (R1.put hs ⟨dx, _, upd_same, h2.put hf r1⟩) q
/-- __init__: a promise about the new object's fields -/
def spI (K : PySem.W.Frag) (C : Addr) (R : List D → List (Str × D) → Prop) : Sp := fun vs H Q _ => ∃ G st ws ds kfs, vs = .ref st :: ws ∧ Same G H ∧ G st = none ∧ OwnAt K C G H st (.ob []) ∧ RpAll K C G ws ds ∧ R ds kfs ∧
  ∀ G' H', Grow [st] G H G' H' → G' st = none → OwnAt K C G' H' st (.ob kfs) → Q .non H'
theorem fn_init {N : List Str} {R : List D → List (Str × D) → Prop} (hN : ∀ ds kfs, R ds kfs → ds.length + 1 ≤ N.length)
    (body : ∀ st ds kfs, R ds kfs → SD K C t (.o st :: ds.map Sl.d ++ List.replicate (N.length - (ds.length + 1)) .no) [(st, .ob [])] ⟨fun _ om => OmAt om st (.ob kfs), fun _ _ => False, fun _ _ => False, fun _ _ => False⟩) (vs : List V) (H : Hp) (Q : VK) (E : XK) (h : spI K C R vs H Q E) :
    t { nx := fun _ H' => Q .non H', rt := Q } (L2.start N vs) H := by
  obtain ⟨G, st, ws, ds, kfs, rfl, e, gn, ow, r, hR, q⟩ := h
  have hl := hN ds kfs hR
  refine body st ds kfs hR ⟨G, H, [st]⟩ G H _ _ ⟨⟨e, ?_, ⟨fun p hp => ?_, by simp⟩⟩, .refl e, fun p hp => ?_⟩ ⟨fun G1 H1 σ1 de1 om1 R1 m => ?_, fun v G1 H1 d1 om1 g1 o1 r1 z => z.elim, fun _ _ _ _ _ _ z => z.elim, fun _ _ _ _ _ _ z => z.elim⟩
  · unfold L2.start
    refine ⟨by simp [r.len], fun i s e => ?_⟩
    cases i with
    | zero =>
      have e2 : s = .o st := by simpa using e.symm
      subst e2
      exact rfl
    | succ i =>
      rw [List.cons_append, List.getElem?_cons_succ] at e
      rw [List.map_cons, List.cons_append, List.getElem?_cons_succ]
      by_cases hi : i < ds.length
      · rw [List.getElem?_append_left (by simpa using hi), List.getElem?_map, List.getElem?_eq_getElem hi] at e
        cases e
        obtain ⟨v, h1, h2⟩ := r.get (List.getElem?_eq_getElem hi)
        refine ⟨v, ?_, h2⟩
        rw [List.getElem?_append_left (by rw [List.length_map, r.len]; exact hi), List.getElem?_map, h1]
        rfl
      · rw [List.getElem?_append_right (by simpa using Nat.le_of_not_lt hi), List.getElem?_replicate] at e
        split at e
        · cases e
          trivial
        · cases e
  · rw [List.mem_singleton.mp hp]
    exact ⟨gn, ow⟩
  · rw [List.mem_singleton.mp hp]
    exact .inr (by simp)
  · exact q G1 H1 R1.gr (R1.st.on.at_ _ m.mem).1 (R1.st.on.at_ _ m.mem).2
theorem ed_make {R : List D → List (Str × D) → Prop} {E : XK} {kfs : List (Str × D)} {lk ed p : D} {sq : Int} (h : AD K C tr de om ds om1) (hR : R ds kfs) (h1 : kfs.lookup ("look" : Str) = some lk) (h2 : kfs.lookup ("edges" : Str) = some ed) (h3 : kfs.lookup ("point" : Str) = some p) (h4 : kfs.lookup ("square" : Str) = some (.int sq)) :
    ED K C (tMake C (spI K C R) [] E tr) de om (.pnt lk ed p sq) om1 :=
  ⟨h.1, fun G H σ S Q q => h.2 G H σ S _ fun vs G1 H1 g1 o1 r1 x dx hx hdx hne => by
    have gf : ∀ p, H1 p = none → G1 p = none := fun p hp => by
      cases z : G1 p with
      | none => rfl
      | some u =>
        rw [g1.s p u z] at hp
        cases hp
    have a1 : Grow [] G1 H1 G1 (upd H1 dx (.own x)) := Grow.newO g1.s hdx
    have hx2 : (upd H1 dx (.own x)) x = none := by
      rw [upd_ne (Ne.symm hne)]
      exact hx
    have a2 : Grow [] G1 H1 G1 (upd (upd H1 dx (.own x)) x (.ins C dx [])) := a1.trans (Grow.newO a1.s hx2)
    refine ⟨G1, x, vs, ds, kfs, by rw [List.append_nil], a2.s, gf x hx, ⟨dx, [], upd_same, Nat.le_refl _, rfl, fun s d z => by cases z⟩, r1, hR, fun G3 H3 g3 gx o3 => ⟨rfl, ?_⟩⟩
    obtain ⟨dx', fs, e1, e2, e3, e4⟩ := o3
    have gr : Grow [] G1 H1 (upd G3 x (.ins C dx' fs)) H3 := by
      refine ⟨fun b o e => ?_, fun b o _ e => ?_, fun b hb => ?_, fun b _ hb hg => ?_, fun b o e => ?_⟩
      · rw [upd_ne (ne_of_none e (gf x hx))]
        exact g3.g b o e
      · have hb : b ≠ x := ne_of_none e hx
        exact g3.h b o (by simpa using hb) (a2.same b o e)
      · cases z : H1 b with
        | none => exact absurd z hb
        | some o =>
          have hbx : b ≠ x := ne_of_none z hx
          rw [g3.h b o (by simpa using hbx) (a2.same b o z)]
          exact fun y => by cases y
      · cases z : H1 b with
        | none => exact absurd z hb
        | some o =>
          have hbx : b ≠ x := ne_of_none z hx
          rw [upd_ne hbx]
          refine g3.n b (by simpa using hbx) ?_ hg
          rw [a2.same b o z]
          exact fun y => by cases y
      · by_cases z : b = x
        · subst z
          rw [upd_same] at e
          rw [e1]
          exact e
        · rw [upd_ne z] at e
          exact g3.s b o e
    have up : Same G3 (upd G3 x (.ins C dx' fs)) := fun b o e => by
      rw [upd_ne (ne_of_none e gx)]
      exact e
    obtain ⟨u1, f1, k1⟩ := e4 _ _ h1
    obtain ⟨u2, f2, k2⟩ := e4 _ _ h2
    obtain ⟨u3, f3, k3⟩ := e4 _ _ h3
    obtain ⟨u4, f4, k4⟩ := e4 _ _ h4
    exact q _ _ H3 (g1.trans gr.weak) (o1.grow gr) (.pnt upd_same f1 f2 f3 (k4.int_of ▸ f4) e3 (k1.mono up) (k2.mono up) (k3.mono up))⟩
section
variable {lk ed p : D} {sq : Int}
theorem ed_look (cls : Cls K C) (na : NoAttr K C "look") (h : ED K C te de om (.pnt lk ed p sq) om1) : ED K C (tFld K te "look") de om lk om1 :=
  ⟨h.1, fun G H σ S Q q => h.2 G H σ S _ fun v G1 H1 g1 o1 r1 => by
    cases r1 with
    | pnt h l1 l2 l3 l4 l5 r1 r2 r3 => exact ⟨_, _, _, _, _, rfl, g1.s _ _ h, cls, na, l1, q _ G1 H1 g1 o1 r1⟩⟩
theorem ed_edges (cls : Cls K C) (na : NoAttr K C "edges") (h : ED K C te de om (.pnt lk ed p sq) om1) : ED K C (tFld K te "edges") de om ed om1 :=
  ⟨h.1, fun G H σ S Q q => h.2 G H σ S _ fun v G1 H1 g1 o1 r1 => by
    cases r1 with
    | pnt h l1 l2 l3 l4 l5 r1 r2 r3 => exact ⟨_, _, _, _, _, rfl, g1.s _ _ h, cls, na, l2, q _ G1 H1 g1 o1 r2⟩⟩
theorem ed_point (cls : Cls K C) (na : NoAttr K C "point") (h : ED K C te de om (.pnt lk ed p sq) om1) : ED K C (tFld K te "point") de om p om1 :=
  ⟨h.1, fun G H σ S Q q => h.2 G H σ S _ fun v G1 H1 g1 o1 r1 => by
    cases r1 with
    | pnt h l1 l2 l3 l4 l5 r1 r2 r3 => exact ⟨_, _, _, _, _, rfl, g1.s _ _ h, cls, na, l3, q _ G1 H1 g1 o1 r3⟩⟩
theorem ed_square (cls : Cls K C) (na : NoAttr K C "square") (h : ED K C te de om (.pnt lk ed p sq) om1) : ED K C (tFld K te "square") de om (.int sq) om1 :=
  ⟨h.1, fun G H σ S Q q => h.2 G H σ S _ fun v G1 H1 g1 o1 r1 => by
    cases r1 with
    | pnt h l1 l2 l3 l4 l5 r1 r2 r3 => exact ⟨_, _, _, _, _, rfl, g1.s _ _ h, cls, na, l4, q _ G1 H1 g1 o1 (.int _)⟩⟩
theorem ed_meth {R : List D → D → Prop} {E : XK} (ho : ED K C ta de om (.pnt lk ed p sq) om1) (ha : AD K C tr de om1 ds om2) (hR : R (.pnt lk ed p sq :: ds) d) : ED K C (tMeth C "covers" (spD K C R) [] E ta tr) de om d om2 :=
  ⟨ha.1.trans ho.1, fun G H σ S Q q => ho.2 G H σ S _ fun v G1 H1 g1 o1 r1 => by
    have r0 := r1
    cases r1 with
    | pnt h l1 l2 l3 l4 l5 k1 k2 k3 =>
      refine ⟨_, _, _, rfl, g1.s _ _ h, l5, ha.2 G1 H1 σ (S.step g1 o1) _ fun vs G2 H2 g2 o2 r2 => ?_⟩
      refine ⟨G2, .pnt lk ed p sq :: ds, d, g2.s, ?_, hR, fun w G3 H3 g3 r3 => q w G3 H3 ((g1.trans (ho.1 ▸ g2)).trans g3.weak) (o2.grow g3) r3⟩
      rw [List.append_nil]
      exact .cons (r0.mono g2.g) r2⟩
end
/-! constants of the module -/
variable {mg : Str → Option Value} {Z : Cst} {frL : List Str} {giL : List (Str × Int)} {gsL : List (Str × Str)} {dfL : List (Str × Stmt)} {mi mc : Stmt}
theorem ed_units (Y : Fx K mg Z frL giL gsL dfL mi mc) : ED K C (tC (.ref Z.aU)) de om uD om := ed_c fun G => .tup (Y.un G) (RpAll.of_ints _)
theorem RpAll.of_strs : ∀ (ns : List Str), RpAll K C G (ns.map V.str) (ns.map D.str)
  | [] => .nil
  | n :: ns => .cons (.str n) (RpAll.of_strs ns)
theorem ed_fit (Y : Fx K mg Z frL giL gsL dfL mi mc) {s : Str} {ws : List Str} (hm : (s, ws) ∈ ([("fill", ["area"]), ("stroke", ["line", "area"]), ("dot", ["point"])] : List (Str × List Str))) (h : ED K C te de om (.str s) om1) :
    ED K C (tOp (rIxD K Z.w) (tC (.ref Z.aF)) te) de om (.tup (ws.map D.str)) om1 :=
  ⟨h.1, fun G H σ S Q q => h.2 G H σ S _ fun v G1 H1 g1 o1 r1 => by
    obtain rfl := r1.str_of
    obtain ⟨a, h1, h2⟩ := Y.fit (s, ws) hm
    exact ⟨Z.aF, s, .ref a, rfl, rfl, h1, q _ G1 H1 g1 o1 (.tup (h2 G1) (RpAll.of_strs ws))⟩⟩
theorem gen_eq (bf : Nat → Bool) (el : Nat → D) : ∀ n, gen bf el n = ((List.range n).filter bf).map el
  | 0 => rfl
  | n + 1 => by
    unfold gen
    rw [gen_eq bf el n, List.range_succ, List.filter_append, List.map_append]
    by_cases h : bf n = true
    · rw [if_pos h, List.filter_cons_of_pos h]
      rfl
    · rw [if_neg h, List.filter_cons_of_neg h]
      rfl
end
end TA

/-! Printed by gen.py: the defs' readings and walks. -/
namespace TA
open PySem PySem.Spec L2
open PyProof.Rows (boot_isinstance boot_int boot_bool boot_tuple boot_all boot_any boot_abs boot_min boot_sorted boot_str boot_list)
def rListOf (K : PySem.W.Frag) : List V → Hp → VK → Prop := fun xs H Q => ∃ p ys, xs = [.ref p] ∧ (SqL K H p ys ∨ SqT K H p ys) ∧ ∀ l, H l = none → Q (.ref l) (upd H l (.lst ys))
def rInS : R2 := fun x y H Q => ∃ (c : Nat) (z : Str), x = .str ⟨#[c]⟩ ∧ y = .str z ∧ Q (.bl (decide (c ∈ z.cps.toList))) H
theorem call_listOf {X : Cx} : CallR X (.type "list") (rListOf X.K) := call_list_of
theorem units65 {k : Nat} {A : Around} (r : Room k A) : A.units + 65 < cLine := by
  have h := r.un
  omega
abbrev FX (K : PySem.W.Frag) (mg : Str → Option Value) (Z : Cst) : Prop := Fx K mg Z frL giL gsL dfL s___init__ s_covers
/-! ### is_whole -/
abbrev N_is_whole : List Str := ["value"]
theorem sc_is_whole : FnScope N_is_whole ["value"] (defScope s_is_whole) := ⟨rfl, rfl, rfl, by decide +kernel, rfl, by decide +kernel, by decide +kernel⟩
def t_is_whole (K : PySem.W.Frag) (Z : Cst) : TS :=
  (tRet (tAndV (tCB (rIsi K) (tCons (tVar 0) (tCons (tC (.ty "int")) tNil))) (tNotV (tCB (rIsi K) (tCons (tVar 0) (tCons (tC (.ty "bool")) tNil))))))
theorem ok_is_whole {P : Program} {w : World} {K : PySem.W.Frag} {mg : Str → Option Value} {base : Heap} {Z : Cst} (Y : FX K mg Z) {sp : Sp} (len : ∀ vs H Q E, sp vs H Q E → vs.length = 1)
    (run : ∀ vs H Q E, sp vs H Q E → t_is_whole K Z { nx := fun _ H' => Q .non H', rt := Q } (L2.start N_is_whole vs) H) : Has P w K mg base 1 "is_whole" ["value"] sp := by
  obtain ⟨f, fd, F, gm⟩ := Y.df 0 _ rfl
  have b : Binds K fd ["value"] [] := F.bindsN fun _ _ _ _ _ _ us hl => match us, hl with | [_], _ => rfl
  have G : FnOk P w K mg base CX0 1 f fd ["value"] sp := F.ok sc_is_whole len fun cdv A outer s H vs Q E hr h => ⟨t_is_whole K Z, PSs.nox (pss_one (ps_ret (pe_and (pe_callB call_isi rfl (Y.fr 0 _ rfl) boot_isinstance (pa_cons (pv 0) (pa_cons (pe_ty (Y.fr 1 _ rfl) rfl boot_int) pa_nil))) (pe_one (pe_not (pe_callB call_isi rfl (Y.fr 0 _ rfl) boot_isinstance (pa_cons (pv 0) (pa_cons (pe_ty (Y.fr 2 _ rfl) rfl boot_bool) pa_nil)))))))), run vs H Q E h⟩
  exact ⟨f, fd, G, gm, F.kp, b, FunD.bindsA F fun _ _ _ _ _ _ us hl => match us, hl with | [_], _ => rfl⟩
/-! ### is_point -/
abbrev N_is_point : List Str := ["value", "part"]
theorem sc_is_point : FnScope N_is_point ["value"] (defScope s_is_point) := ⟨rfl, rfl, rfl, by decide +kernel, rfl, by decide +kernel, by decide +kernel⟩
def t_is_point (K : PySem.W.Frag) (Z : Cst) (p_is_whole : Sp) : TS :=
  (tSeq (tIfS (tOr (tNot (tB (tCB (rIsi K) (tCons (tVar 0) (tCons (tC (.ty "tuple")) tNil))))) (tTest (tOp rNe (tCB (rLenA K) (tCons (tVar 0) tNil)) (tC (.int 2))))) (tRet (tC (.bl false))) tNext)
  (tRet (tCB (rAll K) (tCons (tLc (iTup K (tVar 0)) (gName 1) tYes (tAndV (tCall p_is_whole [] E0 (tCons (tVar 1) tNil)) (tOp rLe (tCB rAbs (tCons (tVar 1) tNil)) (tC (.int 1000)))) [1]) tNil))))
theorem ok_is_point {P : Program} {w : World} {K : PySem.W.Frag} {mg : Str → Option Value} {base : Heap} {Z : Cst} (Y : FX K mg Z) {p_is_whole : Sp} (h_is_whole : Has P w K mg base 1 "is_whole" ["value"] p_is_whole) {sp : Sp} (len : ∀ vs H Q E, sp vs H Q E → vs.length = 1)
    (run : ∀ vs H Q E, sp vs H Q E → t_is_point K Z p_is_whole { nx := fun _ H' => Q .non H', rt := Q } (L2.start N_is_point vs) H) : Has P w K mg base 2 "is_point" ["value"] sp := by
  obtain ⟨f, fd, F, gm⟩ := Y.df 1 _ rfl
  have b : Binds K fd ["value"] [] := F.bindsN fun _ _ _ _ _ _ us hl => match us, hl with | [_], _ => rfl
  have G : FnOk P w K mg base CX0 2 f fd ["value"] sp := F.ok sc_is_point len fun cdv A outer s H vs Q E hr h => ⟨t_is_point K Z p_is_whole, PSs.nox (pss_cons (ps_if (PW.pt (pw_or (pt_not (pt_val (pe_callB call_isi rfl (Y.fr 0 _ rfl) boot_isinstance (pa_cons (pv 0) (pa_cons (pe_ty (Y.fr 3 _ rfl) rfl boot_tuple) pa_nil))))) (pw_or1 (pt_cmpR op_ne (pe_callB call_lenA rfl (Y.fr 6 _ rfl) boot_len (pa_cons (pv 0) pa_nil)) pe_int rfl)))) (pss_one (ps_ret pe_bl)) pss_nil)
    (pss_one (ps_ret (pe_callB (cr_all rfl) rfl (Y.fr 7 _ rfl) boot_all (pa_cons (pe_lc (own := [("part", 1)]) rfl sc_is_point.nd (pi_tup (pv 0)) (blkOk_by (N := N_is_point) (sc := defScope s_is_point) (by decide +kernel)) (fun _ _ _ _ _ => (pg_name (i := 1) sc_is_point.nd rfl (Or.inl rfl))) (fun _ _ _ _ _ => pts_nil) (fun _ _ _ _ _ => (pe_and (pe_has h_is_whole hr (by decide) rfl (pa_cons (pv 1) pa_nil)) (pe_one (pe_cmpR op_le (pe_callB call_absA rfl (Y.fr 9 _ rfl) boot_abs (pa_cons (pv 1) pa_nil)) (pe_gi (Y.gi 0 _ rfl) rfl) rfl))))) pa_nil))))), run vs H Q E h⟩
  exact ⟨f, fd, G, gm, F.kp, b, FunD.bindsA F fun _ _ _ _ _ _ us hl => match us, hl with | [_], _ => rfl⟩
/-! ### is_line -/
abbrev N_is_line : List Str := ["value", "at", "one"]
theorem sc_is_line : FnScope N_is_line ["value"] (defScope s_is_line) := ⟨rfl, rfl, rfl, by decide +kernel, rfl, by decide +kernel, by decide +kernel⟩
def t_is_line (K : PySem.W.Frag) (Z : Cst) (p_is_point : Sp) : TS :=
  (tSeq (tIfS (tOr (tNot (tB (tCB (rIsi K) (tCons (tVar 0) (tCons (tC (.ty "tuple")) tNil))))) (tOr (tNot (tTest (tChain rLe rLe (tC (.int 2)) (tCB (rLenA K) (tCons (tVar 0) tNil)) (tC (.int 40))))) (tNot (tB (tCB (rAll K) (tCons (tLc (iTup K (tVar 0)) (gName 2) tYes (tCall p_is_point [] E0 (tCons (tVar 2) tNil)) [2]) tNil)))))) (tRet (tC (.bl false))) tNext)
  (tRet (tCB (rAll K) (tCons (tLc (iRng1 (tCons (tOp rSu (tCB (rLenA K) (tCons (tVar 0) tNil)) (tC (.int 1))) tNil)) (gName 1) tYes (tOp (rNeD K) (tOp (rIxT K) (tVar 0) (tVar 1)) (tOp (rIxT K) (tVar 0) (tOp rAd (tVar 1) (tC (.int 1))))) [1]) tNil))))
theorem ok_is_line {P : Program} {w : World} {K : PySem.W.Frag} {mg : Str → Option Value} {base : Heap} {Z : Cst} (Y : FX K mg Z) {p_is_point : Sp} (h_is_point : Has P w K mg base 2 "is_point" ["value"] p_is_point) {sp : Sp} (len : ∀ vs H Q E, sp vs H Q E → vs.length = 1)
    (run : ∀ vs H Q E, sp vs H Q E → t_is_line K Z p_is_point { nx := fun _ H' => Q .non H', rt := Q } (L2.start N_is_line vs) H) : Has P w K mg base 3 "is_line" ["value"] sp := by
  obtain ⟨f, fd, F, gm⟩ := Y.df 2 _ rfl
  have b : Binds K fd ["value"] [] := F.bindsN fun _ _ _ _ _ _ us hl => match us, hl with | [_], _ => rfl
  have G : FnOk P w K mg base CX0 3 f fd ["value"] sp := F.ok sc_is_line len fun cdv A outer s H vs Q E hr h => ⟨t_is_line K Z p_is_point, PSs.nox (pss_cons (ps_if (PW.pt (pw_or (pt_not (pt_val (pe_callB call_isi rfl (Y.fr 0 _ rfl) boot_isinstance (pa_cons (pv 0) (pa_cons (pe_ty (Y.fr 3 _ rfl) rfl boot_tuple) pa_nil))))) (pw_or (pt_not (pt_chain op_le op_le pe_int (pe_callB call_lenA rfl (Y.fr 6 _ rfl) boot_len (pa_cons (pv 0) pa_nil)) (pe_gi (Y.gi 1 _ rfl) rfl))) (pw_or1 (pt_not (pt_val (pe_callB (cr_all rfl) rfl (Y.fr 7 _ rfl) boot_all (pa_cons (pe_lc (own := [("one", 2)]) rfl sc_is_line.nd (pi_tup (pv 0)) (blkOk_by (N := N_is_line) (sc := defScope s_is_line) (by decide +kernel)) (fun _ _ _ _ _ => (pg_name (i := 2) sc_is_line.nd rfl (Or.inl rfl))) (fun _ _ _ _ _ => pts_nil) (fun _ _ _ _ _ => (pe_has h_is_point hr (by decide) rfl (pa_cons (pv 2) pa_nil)))) pa_nil)))))))) (pss_one (ps_ret pe_bl)) pss_nil)
    (pss_one (ps_ret (pe_callB (cr_all rfl) rfl (Y.fr 7 _ rfl) boot_all (pa_cons (pe_lc (own := [("at", 1)]) rfl sc_is_line.nd (pi_range1 rfl (Y.fr 11 _ rfl) (pa_cons (pe_op op_sub (pe_callB call_lenA rfl (Y.fr 6 _ rfl) boot_len (pa_cons (pv 0) pa_nil)) pe_int) pa_nil)) (blkOk_by (N := N_is_line) (sc := defScope s_is_line) (by decide +kernel)) (fun _ _ _ _ _ => (pg_name (i := 1) sc_is_line.nd rfl (Or.inl rfl))) (fun _ _ _ _ _ => pts_nil) (fun _ _ _ _ _ => (pe_cmpR (op_neD (Room.units hr)) (pe_ix ix_tup (pv 0) (pv 1) (fun _ _ => rfl)) (pe_ix ix_tup (pv 0) (pe_op op_add (pv 1) pe_int) (fun _ _ => rfl)) rfl))) pa_nil))))), run vs H Q E h⟩
  exact ⟨f, fd, G, gm, F.kp, b, FunD.bindsA F fun _ _ _ _ _ _ us hl => match us, hl with | [_], _ => rfl⟩
/-! ### turned -/
abbrev N_turned : List Str := ["a", "b", "c"]
theorem sc_turned : FnScope N_turned ["a", "b", "c"] (defScope s_turned) := ⟨rfl, rfl, rfl, by decide +kernel, rfl, by decide +kernel, by decide +kernel⟩
def t_turned (K : PySem.W.Frag) (Z : Cst) : TS :=
  (tRet (tOp rSu (tOp rMu (tOp rSu (tOp (rIxT K) (tVar 1) (tC (.int 0))) (tOp (rIxT K) (tVar 0) (tC (.int 0)))) (tOp rSu (tOp (rIxT K) (tVar 2) (tC (.int 1))) (tOp (rIxT K) (tVar 0) (tC (.int 1))))) (tOp rMu (tOp rSu (tOp (rIxT K) (tVar 1) (tC (.int 1))) (tOp (rIxT K) (tVar 0) (tC (.int 1)))) (tOp rSu (tOp (rIxT K) (tVar 2) (tC (.int 0))) (tOp (rIxT K) (tVar 0) (tC (.int 0)))))))
theorem ok_turned {P : Program} {w : World} {K : PySem.W.Frag} {mg : Str → Option Value} {base : Heap} {Z : Cst} (Y : FX K mg Z) {sp : Sp} (len : ∀ vs H Q E, sp vs H Q E → vs.length = 3)
    (run : ∀ vs H Q E, sp vs H Q E → t_turned K Z { nx := fun _ H' => Q .non H', rt := Q } (L2.start N_turned vs) H) : Has P w K mg base 1 "turned" ["a", "b", "c"] sp := by
  obtain ⟨f, fd, F, gm⟩ := Y.df 3 _ rfl
  have b : Binds K fd ["a", "b", "c"] [] := F.bindsN fun _ _ _ _ _ _ us hl => match us, hl with | [_, _, _], _ => rfl
  have G : FnOk P w K mg base CX0 1 f fd ["a", "b", "c"] sp := F.ok sc_turned len fun cdv A outer s H vs Q E hr h => ⟨t_turned K Z, PSs.nox (pss_one (ps_ret (pe_op op_sub (pe_op op_mul (pe_op op_sub (pe_ix ix_tup (pv 1) pe_int (fun _ _ => rfl)) (pe_ix ix_tup (pv 0) pe_int (fun _ _ => rfl))) (pe_op op_sub (pe_ix ix_tup (pv 2) pe_int (fun _ _ => rfl)) (pe_ix ix_tup (pv 0) pe_int (fun _ _ => rfl)))) (pe_op op_mul (pe_op op_sub (pe_ix ix_tup (pv 1) pe_int (fun _ _ => rfl)) (pe_ix ix_tup (pv 0) pe_int (fun _ _ => rfl))) (pe_op op_sub (pe_ix ix_tup (pv 2) pe_int (fun _ _ => rfl)) (pe_ix ix_tup (pv 0) pe_int (fun _ _ => rfl))))))), run vs H Q E h⟩
  exact ⟨f, fd, G, gm, F.kp, b, FunD.bindsA F fun _ _ _ _ _ _ us hl => match us, hl with | [_, _, _], _ => rfl⟩
/-! ### edge_of -/
abbrev N_edge_of : List Str := ["p", "q"]
theorem sc_edge_of : FnScope N_edge_of ["p", "q"] (defScope s_edge_of) := ⟨rfl, rfl, rfl, by decide +kernel, rfl, by decide +kernel, by decide +kernel⟩
def t_edge_of (K : PySem.W.Frag) (Z : Cst) : TS :=
  (tRet (tIf (tTest (tOp (rLtT K) (tVar 0) (tVar 1))) (tTup (tCons (tVar 0) (tCons (tVar 1) tNil))) (tTup (tCons (tVar 1) (tCons (tVar 0) tNil)))))
theorem ok_edge_of {P : Program} {w : World} {K : PySem.W.Frag} {mg : Str → Option Value} {base : Heap} {Z : Cst} (Y : FX K mg Z) {sp : Sp} (len : ∀ vs H Q E, sp vs H Q E → vs.length = 2)
    (run : ∀ vs H Q E, sp vs H Q E → t_edge_of K Z { nx := fun _ H' => Q .non H', rt := Q } (L2.start N_edge_of vs) H) : Has P w K mg base 1 "edge_of" ["p", "q"] sp := by
  obtain ⟨f, fd, F, gm⟩ := Y.df 4 _ rfl
  have b : Binds K fd ["p", "q"] [] := F.bindsN fun _ _ _ _ _ _ us hl => match us, hl with | [_, _], _ => rfl
  have G : FnOk P w K mg base CX0 1 f fd ["p", "q"] sp := F.ok sc_edge_of len fun cdv A outer s H vs Q E hr h => ⟨t_edge_of K Z, PSs.nox (pss_one (ps_ret (pe_ifExp (pt_cmpR (op_ltT (Room.units0 hr)) (pv 0) (pv 1) rfl) (pe_tup (pa_cons (pv 0) (pa_cons (pv 1) pa_nil))) (pe_tup (pa_cons (pv 1) (pa_cons (pv 0) pa_nil)))))), run vs H Q E h⟩
  exact ⟨f, fd, G, gm, F.kp, b, FunD.bindsA F fun _ _ _ _ _ _ us hl => match us, hl with | [_, _], _ => rfl⟩
/-! ### are_beside -/
abbrev N_are_beside : List Str := ["one", "other"]
theorem sc_are_beside : FnScope N_are_beside ["one", "other"] (defScope s_are_beside) := ⟨rfl, rfl, rfl, by decide +kernel, rfl, by decide +kernel, by decide +kernel⟩
def t_are_beside (K : PySem.W.Frag) (Z : Cst) : TS :=
  (tRet (tOrV (tAndV (tOp rG (tVar 0) (tC (.int 0))) (tOp rG (tVar 1) (tC (.int 0)))) (tAndV (tOp rL (tVar 0) (tC (.int 0))) (tOp rL (tVar 1) (tC (.int 0))))))
theorem ok_are_beside {P : Program} {w : World} {K : PySem.W.Frag} {mg : Str → Option Value} {base : Heap} {Z : Cst} (Y : FX K mg Z) {sp : Sp} (len : ∀ vs H Q E, sp vs H Q E → vs.length = 2)
    (run : ∀ vs H Q E, sp vs H Q E → t_are_beside K Z { nx := fun _ H' => Q .non H', rt := Q } (L2.start N_are_beside vs) H) : Has P w K mg base 1 "are_beside" ["one", "other"] sp := by
  obtain ⟨f, fd, F, gm⟩ := Y.df 5 _ rfl
  have b : Binds K fd ["one", "other"] [] := F.bindsN fun _ _ _ _ _ _ us hl => match us, hl with | [_, _], _ => rfl
  have G : FnOk P w K mg base CX0 1 f fd ["one", "other"] sp := F.ok sc_are_beside len fun cdv A outer s H vs Q E hr h => ⟨t_are_beside K Z, PSs.nox (pss_one (ps_ret (pe_or (pe_and (pe_cmpR op_gt (pv 0) pe_int rfl) (pe_one (pe_cmpR op_gt (pv 1) pe_int rfl))) (pe_one (pe_and (pe_cmpR op_lt (pv 0) pe_int rfl) (pe_one (pe_cmpR op_lt (pv 1) pe_int rfl))))))), run vs H Q E h⟩
  exact ⟨f, fd, G, gm, F.kp, b, FunD.bindsA F fun _ _ _ _ _ _ us hl => match us, hl with | [_, _], _ => rfl⟩
/-! ### meet -/
abbrev N_meet : List Str := ["first", "second", "a", "b", "c", "d", "at_c", "at_d", "at_a", "at_b", "side", "point", "whole", "x"]
theorem sc_meet : FnScope N_meet ["first", "second"] (defScope s_meet) := ⟨rfl, rfl, rfl, by decide +kernel, rfl, by decide +kernel, by decide +kernel⟩
def t_meet (K : PySem.W.Frag) (Z : Cst) (p_turned : Sp) (p_are_beside : Sp) : TS :=
  (tSeq (tAsg (tVar 0) (gTup K 2 (gCons (gName 2) (gCons (gName 3) gNil))))
  (tSeq (tAsg (tVar 1) (gTup K 2 (gCons (gName 4) (gCons (gName 5) gNil))))
  (tSeq (tAsg (tCall p_turned [] E0 (tCons (tVar 2) (tCons (tVar 3) (tCons (tVar 4) tNil)))) (gName 6))
  (tSeq (tAsg (tCall p_turned [] E0 (tCons (tVar 2) (tCons (tVar 3) (tCons (tVar 5) tNil)))) (gName 7))
  (tSeq (tIfS (tAnd (tTest (tOp rEq (tVar 6) (tC (.int 0)))) (tTest (tOp rEq (tVar 7) (tC (.int 0))))) tNever tNext)
  (tSeq (tAsg (tCall p_turned [] E0 (tCons (tVar 4) (tCons (tVar 5) (tCons (tVar 2) tNil)))) (gName 8))
  (tSeq (tAsg (tCall p_turned [] E0 (tCons (tVar 4) (tCons (tVar 5) (tCons (tVar 3) tNil)))) (gName 9))
  (tSeq (tIfS (tOr (tB (tCall p_are_beside [] E0 (tCons (tVar 6) (tCons (tVar 7) tNil)))) (tB (tCall p_are_beside [] E0 (tCons (tVar 8) (tCons (tVar 9) tNil))))) (tRet (tTup (tCons (tC (.str "none")) tNil))) tNext)
  (tSeq (tFor (iTup K (tTup (tCons (tTup (tCons (tVar 6) (tCons (tVar 4) tNil))) (tCons (tTup (tCons (tVar 7) (tCons (tVar 5) tNil))) (tCons (tTup (tCons (tVar 8) (tCons (tVar 2) tNil))) (tCons (tTup (tCons (tVar 9) (tCons (tVar 3) tNil))) tNil)))))) (gTup K 2 (gCons (gName 10) (gCons (gName 11) gNil))) (tIfS (tTest (tOp rEq (tVar 10) (tC (.int 0)))) (tRet (tTup (tCons (tC (.str "touch")) (tCons (tVar 11) tNil)))) tNext))
  tNever)))))))))
theorem ok_meet {P : Program} {w : World} {K : PySem.W.Frag} {mg : Str → Option Value} {base : Heap} {Z : Cst} (Y : FX K mg Z) {p_turned : Sp} (h_turned : Has P w K mg base 1 "turned" ["a", "b", "c"] p_turned) {p_are_beside : Sp} (h_are_beside : Has P w K mg base 1 "are_beside" ["one", "other"] p_are_beside) {sp : Sp} (len : ∀ vs H Q E, sp vs H Q E → vs.length = 2)
    (run : ∀ vs H Q E, sp vs H Q E → t_meet K Z p_turned p_are_beside { nx := fun _ H' => Q .non H', rt := Q } (L2.start N_meet vs) H) : Has P w K mg base 2 "meet" ["first", "second"] sp := by
  obtain ⟨f, fd, F, gm⟩ := Y.df 6 _ rfl
  have b : Binds K fd ["first", "second"] [] := F.bindsN fun _ _ _ _ _ _ us hl => match us, hl with | [_, _], _ => rfl
  have G : FnOk P w K mg base CX0 2 f fd ["first", "second"] sp := F.ok sc_meet len fun cdv A outer s H vs Q E hr h => ⟨t_meet K Z p_turned p_are_beside, PSs.nox (pss_cons (ps_asg (pv 0) (pg_tup rfl (pgs_cons (pg_name (i := 2) sc_meet.nd rfl (Or.inl rfl)) (pgs_cons (pg_name (i := 3) sc_meet.nd rfl (Or.inl rfl)) pgs_nil))))
    (pss_cons (ps_asg (pv 1) (pg_tup rfl (pgs_cons (pg_name (i := 4) sc_meet.nd rfl (Or.inl rfl)) (pgs_cons (pg_name (i := 5) sc_meet.nd rfl (Or.inl rfl)) pgs_nil))))
    (pss_cons (ps_set (i := 6) sc_meet.nd rfl (Or.inl rfl) (pe_has h_turned hr (by decide) rfl (pa_cons (pv 2) (pa_cons (pv 3) (pa_cons (pv 4) pa_nil)))))
    (pss_cons (ps_set (i := 7) sc_meet.nd rfl (Or.inl rfl) (pe_has h_turned hr (by decide) rfl (pa_cons (pv 2) (pa_cons (pv 3) (pa_cons (pv 5) pa_nil)))))
    (pss_cons (ps_if (PW.pt (pw_and (pt_cmpR op_eq (pv 6) pe_int rfl) (pw_and1 (pt_cmpR op_eq (pv 7) pe_int rfl)))) (pss_one ps_never) pss_nil)
    (pss_cons (ps_set (i := 8) sc_meet.nd rfl (Or.inl rfl) (pe_has h_turned hr (by decide) rfl (pa_cons (pv 4) (pa_cons (pv 5) (pa_cons (pv 2) pa_nil)))))
    (pss_cons (ps_set (i := 9) sc_meet.nd rfl (Or.inl rfl) (pe_has h_turned hr (by decide) rfl (pa_cons (pv 4) (pa_cons (pv 5) (pa_cons (pv 3) pa_nil)))))
    (pss_cons (ps_if (PW.pt (pw_or (pt_val (pe_has h_are_beside hr (by decide) rfl (pa_cons (pv 6) (pa_cons (pv 7) pa_nil)))) (pw_or1 (pt_val (pe_has h_are_beside hr (by decide) rfl (pa_cons (pv 8) (pa_cons (pv 9) pa_nil))))))) (pss_one (ps_ret (pe_tup (pa_cons pe_str pa_nil)))) pss_nil)
    (pss_cons (ps_for PassesOwn.never rfl (pi_tup (pe_tup (pa_cons (pe_tup (pa_cons (pv 6) (pa_cons (pv 4) pa_nil))) (pa_cons (pe_tup (pa_cons (pv 7) (pa_cons (pv 5) pa_nil))) (pa_cons (pe_tup (pa_cons (pv 8) (pa_cons (pv 2) pa_nil))) (pa_cons (pe_tup (pa_cons (pv 9) (pa_cons (pv 3) pa_nil))) pa_nil)))))) (pg_tup rfl (pgs_cons (pg_name (i := 10) sc_meet.nd rfl (Or.inl rfl)) (pgs_cons (pg_name (i := 11) sc_meet.nd rfl (Or.inl rfl)) pgs_nil))) (pss_one (ps_if (pt_cmpR op_eq (pv 10) pe_int rfl) (pss_one (ps_ret (pe_tup (pa_cons pe_str (pa_cons (pv 11) pa_nil))))) pss_nil)))
    pss_never))))))))), run vs H Q E h⟩
  exact ⟨f, fd, G, gm, F.kp, b, FunD.bindsA F fun _ _ _ _ _ _ us hl => match us, hl with | [_, _], _ => rfl⟩
/-! ### is_name -/
abbrev N_is_name : List Str := ["value", "sign"]
theorem sc_is_name : FnScope N_is_name ["value"] (defScope s_is_name) := ⟨rfl, rfl, rfl, by decide +kernel, rfl, by decide +kernel, by decide +kernel⟩
def t_is_name (K : PySem.W.Frag) (Z : Cst) : TS :=
  (tSeq (tIfS (tOr (tNot (tB (tCB (rIsi K) (tCons (tVar 0) (tCons (tC (.ty "str")) tNil))))) (tOr (tNot (tTest (tChain rLe rLe (tC (.int 1)) (tCB (rLenA K) (tCons (tVar 0) tNil)) (tC (.int 12))))) (tTest (tOp rNotInS (tOp rIxS (tVar 0) (tC (.int 0))) (tC (.str "abcdefghijklmnopqrstuvwxyz")))))) (tRet (tC (.bl false))) tNext)
  (tRet (tCB (rAll K) (tCons (tLc (iStr (tVar 0)) (gName 1) tYes (tOrV (tOp rInS (tVar 1) (tC (.str "abcdefghijklmnopqrstuvwxyz"))) (tOp rInS (tVar 1) (tC (.str "0123456789")))) [1]) tNil))))
theorem ok_is_name {P : Program} {w : World} {K : PySem.W.Frag} {mg : Str → Option Value} {base : Heap} {Z : Cst} (Y : FX K mg Z) {sp : Sp} (len : ∀ vs H Q E, sp vs H Q E → vs.length = 1)
    (run : ∀ vs H Q E, sp vs H Q E → t_is_name K Z { nx := fun _ H' => Q .non H', rt := Q } (L2.start N_is_name vs) H) : Has P w K mg base 1 "is_name" ["value"] sp := by
  obtain ⟨f, fd, F, gm⟩ := Y.df 7 _ rfl
  have b : Binds K fd ["value"] [] := F.bindsN fun _ _ _ _ _ _ us hl => match us, hl with | [_], _ => rfl
  have G : FnOk P w K mg base CX0 1 f fd ["value"] sp := F.ok sc_is_name len fun cdv A outer s H vs Q E hr h => ⟨t_is_name K Z, PSs.nox (pss_cons (ps_if (PW.pt (pw_or (pt_not (pt_val (pe_callB call_isi rfl (Y.fr 0 _ rfl) boot_isinstance (pa_cons (pv 0) (pa_cons (pe_ty (Y.fr 4 _ rfl) rfl boot_str) pa_nil))))) (pw_or (pt_not (pt_chain op_le op_le pe_int (pe_callB call_lenA rfl (Y.fr 6 _ rfl) boot_len (pa_cons (pv 0) pa_nil)) pe_int)) (pw_or1 (pt_cmpR op_notIn_sign (pe_ix ix_str (pv 0) pe_int (fun _ _ => rfl)) (pe_gs (Y.gs 0 _ rfl) rfl) rfl))))) (pss_one (ps_ret pe_bl)) pss_nil)
    (pss_one (ps_ret (pe_callB (cr_all rfl) rfl (Y.fr 7 _ rfl) boot_all (pa_cons (pe_lc (own := [("sign", 1)]) rfl sc_is_name.nd (pi_str (pv 0)) (blkOk_by (N := N_is_name) (sc := defScope s_is_name) (by decide +kernel)) (fun _ _ _ _ _ => (pg_name (i := 1) sc_is_name.nd rfl (Or.inl rfl))) (fun _ _ _ _ _ => pts_nil) (fun _ _ _ _ _ => (pe_or (pe_cmpR op_in_sign (pv 1) (pe_gs (Y.gs 0 _ rfl) rfl) rfl) (pe_one (pe_cmpR op_in_sign (pv 1) (pe_gs (Y.gs 1 _ rfl) rfl) rfl))))) pa_nil))))), run vs H Q E h⟩
  exact ⟨f, fd, G, gm, F.kp, b, FunD.bindsA F fun _ _ _ _ _ _ us hl => match us, hl with | [_], _ => rfl⟩
/-! ### are_points -/
abbrev N_are_points : List Str := ["value", "low", "high", "one"]
theorem sc_are_points : FnScope N_are_points ["value", "low", "high"] (defScope s_are_points) := ⟨rfl, rfl, rfl, by decide +kernel, rfl, by decide +kernel, by decide +kernel⟩
def t_are_points (K : PySem.W.Frag) (Z : Cst) (p_is_point : Sp) : TS :=
  (tRet (tAndV (tCB (rIsi K) (tCons (tVar 0) (tCons (tC (.ty "tuple")) tNil))) (tAndV (tChain rLe rLe (tVar 1) (tCB (rLenA K) (tCons (tVar 0) tNil)) (tVar 2)) (tCB (rAll K) (tCons (tLc (iTup K (tVar 0)) (gName 3) tYes (tCall p_is_point [] E0 (tCons (tVar 3) tNil)) [3]) tNil)))))
theorem ok_are_points {P : Program} {w : World} {K : PySem.W.Frag} {mg : Str → Option Value} {base : Heap} {Z : Cst} (Y : FX K mg Z) {p_is_point : Sp} (h_is_point : Has P w K mg base 2 "is_point" ["value"] p_is_point) {sp : Sp} (len : ∀ vs H Q E, sp vs H Q E → vs.length = 3)
    (run : ∀ vs H Q E, sp vs H Q E → t_are_points K Z p_is_point { nx := fun _ H' => Q .non H', rt := Q } (L2.start N_are_points vs) H) : Has P w K mg base 3 "are_points" ["value", "low", "high"] sp := by
  obtain ⟨f, fd, F, gm⟩ := Y.df 8 _ rfl
  have b : Binds K fd ["value", "low", "high"] [] := F.bindsN fun _ _ _ _ _ _ us hl => match us, hl with | [_, _, _], _ => rfl
  have G : FnOk P w K mg base CX0 3 f fd ["value", "low", "high"] sp := F.ok sc_are_points len fun cdv A outer s H vs Q E hr h => ⟨t_are_points K Z p_is_point, PSs.nox (pss_one (ps_ret (pe_and (pe_callB call_isi rfl (Y.fr 0 _ rfl) boot_isinstance (pa_cons (pv 0) (pa_cons (pe_ty (Y.fr 3 _ rfl) rfl boot_tuple) pa_nil))) (pe_and (pe_chain op_le op_le (pv 1) (pe_callB call_lenA rfl (Y.fr 6 _ rfl) boot_len (pa_cons (pv 0) pa_nil)) (pv 2)) (pe_one (pe_callB (cr_all rfl) rfl (Y.fr 7 _ rfl) boot_all (pa_cons (pe_lc (own := [("one", 3)]) rfl sc_are_points.nd (pi_tup (pv 0)) (blkOk_by (N := N_are_points) (sc := defScope s_are_points) (by decide +kernel)) (fun _ _ _ _ _ => (pg_name (i := 3) sc_are_points.nd rfl (Or.inl rfl))) (fun _ _ _ _ _ => pts_nil) (fun _ _ _ _ _ => (pe_has h_is_point hr (by decide) rfl (pa_cons (pv 3) pa_nil)))) pa_nil))))))), run vs H Q E h⟩
  exact ⟨f, fd, G, gm, F.kp, b, FunD.bindsA F fun _ _ _ _ _ _ us hl => match us, hl with | [_, _, _], _ => rfl⟩
/-! ### around -/
abbrev N_around : List Str := ["points", "at"]
theorem sc_around : FnScope N_around ["points"] (defScope s_around) := ⟨rfl, rfl, rfl, by decide +kernel, rfl, by decide +kernel, by decide +kernel⟩
def t_around (K : PySem.W.Frag) (Z : Cst) (p_edge_of : Sp) : TS :=
  (tRet (tOp rCat (tLc (iRng2 (tCons (tC (.int 1)) (tCons (tCB (rLenA K) (tCons (tVar 0) tNil)) tNil))) (gName 1) tYes (tCall p_edge_of [] E0 (tCons (tOp (rIxT K) (tVar 0) (tOp rSu (tVar 1) (tC (.int 1)))) (tCons (tOp (rIxT K) (tVar 0) (tVar 1)) tNil))) [1]) (tLst (tCons (tCall p_edge_of [] E0 (tCons (tOp (rIxT K) (tVar 0) (tUn (rU fun i => .int (-i)) (tC (.int 1)))) (tCons (tOp (rIxT K) (tVar 0) (tC (.int 0))) tNil))) tNil))))
theorem ok_around {P : Program} {w : World} {K : PySem.W.Frag} {mg : Str → Option Value} {base : Heap} {Z : Cst} (Y : FX K mg Z) {p_edge_of : Sp} (h_edge_of : Has P w K mg base 1 "edge_of" ["p", "q"] p_edge_of) {sp : Sp} (len : ∀ vs H Q E, sp vs H Q E → vs.length = 1)
    (run : ∀ vs H Q E, sp vs H Q E → t_around K Z p_edge_of { nx := fun _ H' => Q .non H', rt := Q } (L2.start N_around vs) H) : Has P w K mg base 2 "around" ["points"] sp := by
  obtain ⟨f, fd, F, gm⟩ := Y.df 9 _ rfl
  have b : Binds K fd ["points"] [] := F.bindsN fun _ _ _ _ _ _ us hl => match us, hl with | [_], _ => rfl
  have G : FnOk P w K mg base CX0 2 f fd ["points"] sp := F.ok sc_around len fun cdv A outer s H vs Q E hr h => ⟨t_around K Z p_edge_of, PSs.nox (pss_one (ps_ret (pe_op op_cat (pe_lc (own := [("at", 1)]) rfl sc_around.nd (pi_range2 rfl (Y.fr 11 _ rfl) (pa_cons pe_int (pa_cons (pe_callB call_lenA rfl (Y.fr 6 _ rfl) boot_len (pa_cons (pv 0) pa_nil)) pa_nil))) (blkOk_by (N := N_around) (sc := defScope s_around) (by decide +kernel)) (fun _ _ _ _ _ => (pg_name (i := 1) sc_around.nd rfl (Or.inl rfl))) (fun _ _ _ _ _ => pts_nil) (fun _ _ _ _ _ => (pe_has h_edge_of hr (by decide) rfl (pa_cons (pe_ix ix_tup (pv 0) (pe_op op_sub (pv 1) pe_int) (fun _ _ => rfl)) (pa_cons (pe_ix ix_tup (pv 0) (pv 1) (fun _ _ => rfl)) pa_nil))))) (pe_lst (pa_cons (pe_has h_edge_of hr (by decide) rfl (pa_cons (pe_ix ix_tup (pv 0) (pe_un un_neg pe_int) (fun _ _ => rfl)) (pa_cons (pe_ix ix_tup (pv 0) pe_int (fun _ _ => rfl)) pa_nil))) pa_nil))))), run vs H Q E h⟩
  exact ⟨f, fd, G, gm, F.kp, b, FunD.bindsA F fun _ _ _ _ _ _ us hl => match us, hl with | [_], _ => rfl⟩
/-! ### goes_simply -/
abbrev N_goes_simply : List Str := ["points", "many", "edges", "at", "other", "told"]
theorem sc_goes_simply : FnScope N_goes_simply ["points"] (defScope s_goes_simply) := ⟨rfl, rfl, rfl, by decide +kernel, rfl, by decide +kernel, by decide +kernel⟩
def t_goes_simply (K : PySem.W.Frag) (Z : Cst) (p_around : Sp) (p_meet : Sp) : TS :=
  (tSeq (tAsg (tCB (rLenA K) (tCons (tVar 0) tNil)) (gName 1))
  (tSeq (tIfS (tB (tCB (rAny K) (tCons (tLc (iRng1 (tCons (tVar 1) tNil)) (gName 3) tYes (tOp (rEqD K) (tOp (rIxT K) (tVar 0) (tOp rSu (tVar 3) (tC (.int 1)))) (tOp (rIxT K) (tVar 0) (tVar 3))) [3]) tNil))) (tRet (tC (.bl false))) tNext)
  (tSeq (tAsg (tCall p_around [] E0 (tCons (tVar 0) tNil)) (gName 2))
  (tSeq (tFor (iRng1 (tCons (tVar 1) tNil)) (gName 3) (tFor (iRng1 (tCons (tVar 3) tNil)) (gName 4) (tSeq (tAsg (tCall p_meet [] E0 (tCons (tOp (rIxL K) (tVar 2) (tVar 3)) (tCons (tOp (rIxL K) (tVar 2) (tVar 4)) tNil))) (gName 5))
  (tIfS (tOr (tTest (tOp rEq (tOp rSu (tVar 3) (tVar 4)) (tC (.int 1)))) (tTest (tOp rEq (tOp rSu (tVar 3) (tVar 4)) (tOp rSu (tVar 1) (tC (.int 1)))))) (tIfS (tTest (tOp rNe (tOp (rIxT K) (tVar 5) (tC (.int 0))) (tC (.str "touch")))) (tRet (tC (.bl false))) tNext) (tIfS (tTest (tOp rNe (tOp (rIxT K) (tVar 5) (tC (.int 0))) (tC (.str "none")))) (tRet (tC (.bl false))) tNext)))))
  (tRet (tC (.bl true)))))))
theorem ok_goes_simply {P : Program} {w : World} {K : PySem.W.Frag} {mg : Str → Option Value} {base : Heap} {Z : Cst} (Y : FX K mg Z) {p_around : Sp} (h_around : Has P w K mg base 2 "around" ["points"] p_around) {p_meet : Sp} (h_meet : Has P w K mg base 2 "meet" ["first", "second"] p_meet) {sp : Sp} (len : ∀ vs H Q E, sp vs H Q E → vs.length = 1)
    (run : ∀ vs H Q E, sp vs H Q E → t_goes_simply K Z p_around p_meet { nx := fun _ H' => Q .non H', rt := Q } (L2.start N_goes_simply vs) H) : Has P w K mg base 3 "goes_simply" ["points"] sp := by
  obtain ⟨f, fd, F, gm⟩ := Y.df 10 _ rfl
  have b : Binds K fd ["points"] [] := F.bindsN fun _ _ _ _ _ _ us hl => match us, hl with | [_], _ => rfl
  have G : FnOk P w K mg base CX0 3 f fd ["points"] sp := F.ok sc_goes_simply len fun cdv A outer s H vs Q E hr h => ⟨t_goes_simply K Z p_around p_meet, PSs.nox (pss_cons (ps_set (i := 1) sc_goes_simply.nd rfl (Or.inl rfl) (pe_callB call_lenA rfl (Y.fr 6 _ rfl) boot_len (pa_cons (pv 0) pa_nil)))
    (pss_cons (ps_if (pt_val (pe_callB (cr_any rfl) rfl (Y.fr 8 _ rfl) boot_any (pa_cons (pe_lc (own := [("at", 3)]) rfl sc_goes_simply.nd (pi_range1 rfl (Y.fr 11 _ rfl) (pa_cons (pv 1) pa_nil)) (blkOk_by (N := N_goes_simply) (sc := defScope s_goes_simply) (by decide +kernel)) (fun _ _ _ _ _ => (pg_name (i := 3) sc_goes_simply.nd rfl (Or.inl rfl))) (fun _ _ _ _ _ => pts_nil) (fun _ _ _ _ _ => (pe_cmpR (op_eqD (Room.units hr)) (pe_ix ix_tup (pv 0) (pe_op op_sub (pv 3) pe_int) (fun _ _ => rfl)) (pe_ix ix_tup (pv 0) (pv 3) (fun _ _ => rfl)) rfl))) pa_nil))) (pss_one (ps_ret pe_bl)) pss_nil)
    (pss_cons (ps_set (i := 2) sc_goes_simply.nd rfl (Or.inl rfl) (pe_has h_around hr (by decide) rfl (pa_cons (pv 0) pa_nil)))
    (pss_cons (ps_for PassesOwn.never rfl (pi_range1 rfl (Y.fr 11 _ rfl) (pa_cons (pv 1) pa_nil)) (pg_name (i := 3) sc_goes_simply.nd rfl (Or.inl rfl)) (pss_one (ps_for PassesOwn.never rfl (pi_range1 rfl (Y.fr 11 _ rfl) (pa_cons (pv 3) pa_nil)) (pg_name (i := 4) sc_goes_simply.nd rfl (Or.inl rfl)) (pss_cons (ps_set (i := 5) sc_goes_simply.nd rfl (Or.inl rfl) (pe_has h_meet hr (by decide) rfl (pa_cons (pe_ix ix_list (pv 2) (pv 3) (fun _ _ => rfl)) (pa_cons (pe_ix ix_list (pv 2) (pv 4) (fun _ _ => rfl)) pa_nil))))
    (pss_one (ps_if (PW.pt (pw_or (pt_cmpR op_eq (pe_op op_sub (pv 3) (pv 4)) pe_int rfl) (pw_or1 (pt_cmpR op_eq (pe_op op_sub (pv 3) (pv 4)) (pe_op op_sub (pv 1) pe_int) rfl)))) (pss_one (ps_if (pt_cmpR op_ne (pe_ix ix_tup (pv 5) pe_int (fun _ _ => rfl)) pe_str rfl) (pss_one (ps_ret pe_bl)) pss_nil)) (pss_one (ps_if (pt_cmpR op_ne (pe_ix ix_tup (pv 5) pe_int (fun _ _ => rfl)) pe_str rfl) (pss_one (ps_ret pe_bl)) pss_nil))))))))
    (pss_one (ps_ret pe_bl)))))), run vs H Q E h⟩
  exact ⟨f, fd, G, gm, F.kp, b, FunD.bindsA F fun _ _ _ _ _ _ us hl => match us, hl with | [_], _ => rfl⟩
/-! ### size -/
abbrev N_size : List Str := ["points", "total", "at", "x", "y", "u", "v"]
theorem sc_size : FnScope N_size ["points"] (defScope s_size) := ⟨rfl, rfl, rfl, by decide +kernel, rfl, by decide +kernel, by decide +kernel⟩
def t_size (K : PySem.W.Frag) (Z : Cst) : TS :=
  (tSeq (tAsg (tC (.int 0)) (gName 1))
  (tSeq (tFor (iRng1 (tCons (tCB (rLenA K) (tCons (tVar 0) tNil)) tNil)) (gName 2) (tSeq (tAsg (tOp (rIxT K) (tVar 0) (tOp rSu (tVar 2) (tC (.int 1)))) (gTup K 2 (gCons (gName 3) (gCons (gName 4) gNil))))
  (tSeq (tAsg (tOp (rIxT K) (tVar 0) (tVar 2)) (gTup K 2 (gCons (gName 5) (gCons (gName 6) gNil))))
  (tAsg (tOp rSu (tOp rAd (tVar 1) (tOp rMu (tVar 3) (tVar 6))) (tOp rMu (tVar 4) (tVar 5))) (gName 1)))))
  (tRet (tVar 1))))
theorem ok_size {P : Program} {w : World} {K : PySem.W.Frag} {mg : Str → Option Value} {base : Heap} {Z : Cst} (Y : FX K mg Z) {sp : Sp} (len : ∀ vs H Q E, sp vs H Q E → vs.length = 1)
    (run : ∀ vs H Q E, sp vs H Q E → t_size K Z { nx := fun _ H' => Q .non H', rt := Q } (L2.start N_size vs) H) : Has P w K mg base 1 "size" ["points"] sp := by
  obtain ⟨f, fd, F, gm⟩ := Y.df 11 _ rfl
  have b : Binds K fd ["points"] [] := F.bindsN fun _ _ _ _ _ _ us hl => match us, hl with | [_], _ => rfl
  have G : FnOk P w K mg base CX0 1 f fd ["points"] sp := F.ok sc_size len fun cdv A outer s H vs Q E hr h => ⟨t_size K Z, PSs.nox (pss_cons (ps_set (i := 1) sc_size.nd rfl (Or.inl rfl) pe_int)
    (pss_cons (ps_for PassesOwn.never rfl (pi_range1 rfl (Y.fr 11 _ rfl) (pa_cons (pe_callB call_lenA rfl (Y.fr 6 _ rfl) boot_len (pa_cons (pv 0) pa_nil)) pa_nil)) (pg_name (i := 2) sc_size.nd rfl (Or.inl rfl)) (pss_cons (ps_asg (pe_ix ix_tup (pv 0) (pe_op op_sub (pv 2) pe_int) (fun _ _ => rfl)) (pg_tup rfl (pgs_cons (pg_name (i := 3) sc_size.nd rfl (Or.inl rfl)) (pgs_cons (pg_name (i := 4) sc_size.nd rfl (Or.inl rfl)) pgs_nil))))
    (pss_cons (ps_asg (pe_ix ix_tup (pv 0) (pv 2) (fun _ _ => rfl)) (pg_tup rfl (pgs_cons (pg_name (i := 5) sc_size.nd rfl (Or.inl rfl)) (pgs_cons (pg_name (i := 6) sc_size.nd rfl (Or.inl rfl)) pgs_nil))))
    (pss_one (ps_set (i := 1) sc_size.nd rfl (Or.inl rfl) (pe_op op_sub (pe_op op_add (pv 1) (pe_op op_mul (pv 3) (pv 6))) (pe_op op_mul (pv 4) (pv 5))))))))
    (pss_one (ps_ret (pv 1))))), run vs H Q E h⟩
  exact ⟨f, fd, G, gm, F.kp, b, FunD.bindsA F fun _ _ _ _ _ _ us hl => match us, hl with | [_], _ => rfl⟩
/-! ### is_ring -/
abbrev N_is_ring : List Str := ["value"]
theorem sc_is_ring : FnScope N_is_ring ["value"] (defScope s_is_ring) := ⟨rfl, rfl, rfl, by decide +kernel, rfl, by decide +kernel, by decide +kernel⟩
def t_is_ring (K : PySem.W.Frag) (Z : Cst) (p_are_points : Sp) (p_goes_simply : Sp) (p_size : Sp) : TS :=
  (tSeq (tIfS (tOr (tNot (tB (tCall p_are_points [] E0 (tCons (tVar 0) (tCons (tC (.int 3)) (tCons (tC (.int 40)) tNil)))))) (tNot (tB (tCall p_goes_simply [] E0 (tCons (tVar 0) tNil))))) (tRet (tC (.bl false))) tNext)
  (tRet (tAndV (tOp rG (tCall p_size [] E0 (tCons (tVar 0) tNil)) (tC (.int 0))) (tOp (rEqD K) (tOp (rIxT K) (tVar 0) (tC (.int 0))) (tCB (TX.rMinD K) (tCons (tVar 0) tNil))))))
theorem ok_is_ring {P : Program} {w : World} {K : PySem.W.Frag} {mg : Str → Option Value} {base : Heap} {Z : Cst} (Y : FX K mg Z) {p_are_points : Sp} (h_are_points : Has P w K mg base 3 "are_points" ["value", "low", "high"] p_are_points) {p_goes_simply : Sp} (h_goes_simply : Has P w K mg base 3 "goes_simply" ["points"] p_goes_simply) {p_size : Sp} (h_size : Has P w K mg base 1 "size" ["points"] p_size) {sp : Sp} (len : ∀ vs H Q E, sp vs H Q E → vs.length = 1)
    (run : ∀ vs H Q E, sp vs H Q E → t_is_ring K Z p_are_points p_goes_simply p_size { nx := fun _ H' => Q .non H', rt := Q } (L2.start N_is_ring vs) H) : Has P w K mg base 4 "is_ring" ["value"] sp := by
  obtain ⟨f, fd, F, gm⟩ := Y.df 12 _ rfl
  have b : Binds K fd ["value"] [] := F.bindsN fun _ _ _ _ _ _ us hl => match us, hl with | [_], _ => rfl
  have G : FnOk P w K mg base CX0 4 f fd ["value"] sp := F.ok sc_is_ring len fun cdv A outer s H vs Q E hr h => ⟨t_is_ring K Z p_are_points p_goes_simply p_size, PSs.nox (pss_cons (ps_if (PW.pt (pw_or (pt_not (pt_val (pe_has h_are_points hr (by decide) rfl (pa_cons (pv 0) (pa_cons pe_int (pa_cons (pe_gi (Y.gi 1 _ rfl) rfl) pa_nil)))))) (pw_or1 (pt_not (pt_val (pe_has h_goes_simply hr (by decide) rfl (pa_cons (pv 0) pa_nil))))))) (pss_one (ps_ret pe_bl)) pss_nil)
    (pss_one (ps_ret (pe_and (pe_cmpR op_gt (pe_has h_size hr (by decide) rfl (pa_cons (pv 0) pa_nil)) pe_int rfl) (pe_one (pe_cmpR (op_eqD (Room.units hr)) (pe_ix ix_tup (pv 0) pe_int (fun _ _ => rfl)) (pe_callB (TX.call_minD rfl (Room.units hr)) rfl (Y.fr 10 _ rfl) boot_min (pa_cons (pv 0) pa_nil)) rfl)))))), run vs H Q E h⟩
  exact ⟨f, fd, G, gm, F.kp, b, FunD.bindsA F fun _ _ _ _ _ _ us hl => match us, hl with | [_], _ => rfl⟩
/-! ### is_shape -/
abbrev N_is_shape : List Str := ["value", "word", "parts", "ring"]
theorem sc_is_shape : FnScope N_is_shape ["value"] (defScope s_is_shape) := ⟨rfl, rfl, rfl, by decide +kernel, rfl, by decide +kernel, by decide +kernel⟩
def t_is_shape (K : PySem.W.Frag) (Z : Cst) (p_is_point : Sp) (p_is_line : Sp) (p_is_ring : Sp) : TS :=
  (tSeq (tIfS (tOr (tNot (tB (tCB (rIsi K) (tCons (tVar 0) (tCons (tC (.ty "tuple")) tNil))))) (tOr (tTest (tOp rNe (tCB (rLenA K) (tCons (tVar 0) tNil)) (tC (.int 2)))) (tNot (tB (tCB (rIsi K) (tCons (tOp (rIxT K) (tVar 0) (tC (.int 0))) (tCons (tC (.ty "str")) tNil))))))) (tRet (tC (.bl false))) tNext)
  (tSeq (tAsg (tVar 0) (gTup K 2 (gCons (gName 1) (gCons (gName 2) gNil))))
  (tSeq (tIfS (tTest (tOp rEq (tVar 1) (tC (.str "point")))) (tRet (tCall p_is_point [] E0 (tCons (tVar 2) tNil))) tNext)
  (tSeq (tIfS (tTest (tOp rEq (tVar 1) (tC (.str "line")))) (tRet (tCall p_is_line [] E0 (tCons (tVar 2) tNil))) tNext)
  (tSeq (tIfS (tOr (tTest (tOp rNe (tVar 1) (tC (.str "area")))) (tOr (tNot (tB (tCB (rIsi K) (tCons (tVar 2) (tCons (tC (.ty "tuple")) tNil))))) (tNot (tTest (tChain rLe rLe (tC (.int 1)) (tCB (rLenA K) (tCons (tVar 2) tNil)) (tC (.int 6))))))) (tRet (tC (.bl false))) tNext)
  (tRet (tCB (rAll K) (tCons (tLc (iTup K (tVar 2)) (gName 3) tYes (tCall p_is_ring [] E0 (tCons (tVar 3) tNil)) [3]) tNil))))))))
theorem ok_is_shape {P : Program} {w : World} {K : PySem.W.Frag} {mg : Str → Option Value} {base : Heap} {Z : Cst} (Y : FX K mg Z) {p_is_point : Sp} (h_is_point : Has P w K mg base 2 "is_point" ["value"] p_is_point) {p_is_line : Sp} (h_is_line : Has P w K mg base 3 "is_line" ["value"] p_is_line) {p_is_ring : Sp} (h_is_ring : Has P w K mg base 4 "is_ring" ["value"] p_is_ring) {sp : Sp} (len : ∀ vs H Q E, sp vs H Q E → vs.length = 1)
    (run : ∀ vs H Q E, sp vs H Q E → t_is_shape K Z p_is_point p_is_line p_is_ring { nx := fun _ H' => Q .non H', rt := Q } (L2.start N_is_shape vs) H) : Has P w K mg base 5 "is_shape" ["value"] sp := by
  obtain ⟨f, fd, F, gm⟩ := Y.df 13 _ rfl
  have b : Binds K fd ["value"] [] := F.bindsN fun _ _ _ _ _ _ us hl => match us, hl with | [_], _ => rfl
  have G : FnOk P w K mg base CX0 5 f fd ["value"] sp := F.ok sc_is_shape len fun cdv A outer s H vs Q E hr h => ⟨t_is_shape K Z p_is_point p_is_line p_is_ring, PSs.nox (pss_cons (ps_if (PW.pt (pw_or (pt_not (pt_val (pe_callB call_isi rfl (Y.fr 0 _ rfl) boot_isinstance (pa_cons (pv 0) (pa_cons (pe_ty (Y.fr 3 _ rfl) rfl boot_tuple) pa_nil))))) (pw_or (pt_cmpR op_ne (pe_callB call_lenA rfl (Y.fr 6 _ rfl) boot_len (pa_cons (pv 0) pa_nil)) pe_int rfl) (pw_or1 (pt_not (pt_val (pe_callB call_isi rfl (Y.fr 0 _ rfl) boot_isinstance (pa_cons (pe_ix ix_tup (pv 0) pe_int (fun _ _ => rfl)) (pa_cons (pe_ty (Y.fr 4 _ rfl) rfl boot_str) pa_nil))))))))) (pss_one (ps_ret pe_bl)) pss_nil)
    (pss_cons (ps_asg (pv 0) (pg_tup rfl (pgs_cons (pg_name (i := 1) sc_is_shape.nd rfl (Or.inl rfl)) (pgs_cons (pg_name (i := 2) sc_is_shape.nd rfl (Or.inl rfl)) pgs_nil))))
    (pss_cons (ps_if (pt_cmpR op_eq (pv 1) pe_str rfl) (pss_one (ps_ret (pe_has h_is_point hr (by decide) rfl (pa_cons (pv 2) pa_nil)))) pss_nil)
    (pss_cons (ps_if (pt_cmpR op_eq (pv 1) pe_str rfl) (pss_one (ps_ret (pe_has h_is_line hr (by decide) rfl (pa_cons (pv 2) pa_nil)))) pss_nil)
    (pss_cons (ps_if (PW.pt (pw_or (pt_cmpR op_ne (pv 1) pe_str rfl) (pw_or (pt_not (pt_val (pe_callB call_isi rfl (Y.fr 0 _ rfl) boot_isinstance (pa_cons (pv 2) (pa_cons (pe_ty (Y.fr 3 _ rfl) rfl boot_tuple) pa_nil))))) (pw_or1 (pt_not (pt_chain op_le op_le pe_int (pe_callB call_lenA rfl (Y.fr 6 _ rfl) boot_len (pa_cons (pv 2) pa_nil)) (pe_gi (Y.gi 2 _ rfl) rfl))))))) (pss_one (ps_ret pe_bl)) pss_nil)
    (pss_one (ps_ret (pe_callB (cr_all rfl) rfl (Y.fr 7 _ rfl) boot_all (pa_cons (pe_lc (own := [("ring", 3)]) rfl sc_is_shape.nd (pi_tup (pv 2)) (blkOk_by (N := N_is_shape) (sc := defScope s_is_shape) (by decide +kernel)) (fun _ _ _ _ _ => (pg_name (i := 3) sc_is_shape.nd rfl (Or.inl rfl))) (fun _ _ _ _ _ => pts_nil) (fun _ _ _ _ _ => (pe_has h_is_ring hr (by decide) rfl (pa_cons (pv 3) pa_nil)))) pa_nil))))))))), run vs H Q E h⟩
  exact ⟨f, fd, G, gm, F.kp, b, FunD.bindsA F fun _ _ _ _ _ _ us hl => match us, hl with | [_], _ => rfl⟩
/-! ### is_thing -/
abbrev N_is_thing : List Str := ["value"]
theorem sc_is_thing : FnScope N_is_thing ["value"] (defScope s_is_thing) := ⟨rfl, rfl, rfl, by decide +kernel, rfl, by decide +kernel, by decide +kernel⟩
def t_is_thing (K : PySem.W.Frag) (Z : Cst) (p_is_name : Sp) (p_is_shape : Sp) : TS :=
  (tSeq (tIfS (tOr (tNot (tB (tCB (rIsi K) (tCons (tVar 0) (tCons (tC (.ty "tuple")) tNil))))) (tTest (tOp rNe (tCB (rLenA K) (tCons (tVar 0) tNil)) (tC (.int 3))))) (tRet (tC (.bl false))) tNext)
  (tRet (tAndV (tCall p_is_name [] E0 (tCons (tOp (rIxT K) (tVar 0) (tC (.int 0))) tNil)) (tAndV (tCall p_is_name [] E0 (tCons (tOp (rIxT K) (tVar 0) (tC (.int 1))) tNil)) (tCall p_is_shape [] E0 (tCons (tOp (rIxT K) (tVar 0) (tC (.int 2))) tNil))))))
theorem ok_is_thing {P : Program} {w : World} {K : PySem.W.Frag} {mg : Str → Option Value} {base : Heap} {Z : Cst} (Y : FX K mg Z) {p_is_name : Sp} (h_is_name : Has P w K mg base 1 "is_name" ["value"] p_is_name) {p_is_shape : Sp} (h_is_shape : Has P w K mg base 5 "is_shape" ["value"] p_is_shape) {sp : Sp} (len : ∀ vs H Q E, sp vs H Q E → vs.length = 1)
    (run : ∀ vs H Q E, sp vs H Q E → t_is_thing K Z p_is_name p_is_shape { nx := fun _ H' => Q .non H', rt := Q } (L2.start N_is_thing vs) H) : Has P w K mg base 6 "is_thing" ["value"] sp := by
  obtain ⟨f, fd, F, gm⟩ := Y.df 14 _ rfl
  have b : Binds K fd ["value"] [] := F.bindsN fun _ _ _ _ _ _ us hl => match us, hl with | [_], _ => rfl
  have G : FnOk P w K mg base CX0 6 f fd ["value"] sp := F.ok sc_is_thing len fun cdv A outer s H vs Q E hr h => ⟨t_is_thing K Z p_is_name p_is_shape, PSs.nox (pss_cons (ps_if (PW.pt (pw_or (pt_not (pt_val (pe_callB call_isi rfl (Y.fr 0 _ rfl) boot_isinstance (pa_cons (pv 0) (pa_cons (pe_ty (Y.fr 3 _ rfl) rfl boot_tuple) pa_nil))))) (pw_or1 (pt_cmpR op_ne (pe_callB call_lenA rfl (Y.fr 6 _ rfl) boot_len (pa_cons (pv 0) pa_nil)) pe_int rfl)))) (pss_one (ps_ret pe_bl)) pss_nil)
    (pss_one (ps_ret (pe_and (pe_has h_is_name hr (by decide) rfl (pa_cons (pe_ix ix_tup (pv 0) pe_int (fun _ _ => rfl)) pa_nil)) (pe_and (pe_has h_is_name hr (by decide) rfl (pa_cons (pe_ix ix_tup (pv 0) pe_int (fun _ _ => rfl)) pa_nil)) (pe_one (pe_has h_is_shape hr (by decide) rfl (pa_cons (pe_ix ix_tup (pv 0) pe_int (fun _ _ => rfl)) pa_nil)))))))), run vs H Q E h⟩
  exact ⟨f, fd, G, gm, F.kp, b, FunD.bindsA F fun _ _ _ _ _ _ us hl => match us, hl with | [_], _ => rfl⟩
/-! ### is_map -/
abbrev N_is_map : List Str := ["value", "one", "other"]
theorem sc_is_map : FnScope N_is_map ["value"] (defScope s_is_map) := ⟨rfl, rfl, rfl, by decide +kernel, rfl, by decide +kernel, by decide +kernel⟩
def t_is_map (K : PySem.W.Frag) (Z : Cst) (p_is_thing : Sp) : TS :=
  (tSeq (tIfS (tOr (tNot (tB (tCB (rIsi K) (tCons (tVar 0) (tCons (tC (.ty "tuple")) tNil))))) (tOr (tTest (tOp rG (tCB (rLenA K) (tCons (tVar 0) tNil)) (tC (.int 60)))) (tNot (tB (tCB (rAll K) (tCons (tLc (iTup K (tVar 0)) (gName 1) tYes (tCall p_is_thing [] E0 (tCons (tVar 1) tNil)) [1]) tNil)))))) (tRet (tC (.bl false))) tNext)
  (tRet (tCB (rAll K) (tCons (tLc (RZ.iZipA K (tCons (tVar 0) (tCons (tSl (rSlA K) (tVar 0) (tPart (tC (.int 1))) tNoPart) tNil))) (gTup K 2 (gCons (gName 1) (gCons (gName 2) gNil))) tYes (tOp rLtS (tOp (rIxT K) (tVar 1) (tC (.int 0))) (tOp (rIxT K) (tVar 2) (tC (.int 0)))) [1, 2]) tNil))))
theorem ok_is_map {P : Program} {w : World} {K : PySem.W.Frag} {mg : Str → Option Value} {base : Heap} {Z : Cst} (Y : FX K mg Z) {p_is_thing : Sp} (h_is_thing : Has P w K mg base 6 "is_thing" ["value"] p_is_thing) {sp : Sp} (len : ∀ vs H Q E, sp vs H Q E → vs.length = 1)
    (run : ∀ vs H Q E, sp vs H Q E → t_is_map K Z p_is_thing { nx := fun _ H' => Q .non H', rt := Q } (L2.start N_is_map vs) H) : Has P w K mg base 7 "is_map" ["value"] sp := by
  obtain ⟨f, fd, F, gm⟩ := Y.df 15 _ rfl
  have b : Binds K fd ["value"] [] := F.bindsN fun _ _ _ _ _ _ us hl => match us, hl with | [_], _ => rfl
  have G : FnOk P w K mg base CX0 7 f fd ["value"] sp := F.ok sc_is_map len fun cdv A outer s H vs Q E hr h => ⟨t_is_map K Z p_is_thing, PSs.nox (pss_cons (ps_if (PW.pt (pw_or (pt_not (pt_val (pe_callB call_isi rfl (Y.fr 0 _ rfl) boot_isinstance (pa_cons (pv 0) (pa_cons (pe_ty (Y.fr 3 _ rfl) rfl boot_tuple) pa_nil))))) (pw_or (pt_cmpR op_gt (pe_callB call_lenA rfl (Y.fr 6 _ rfl) boot_len (pa_cons (pv 0) pa_nil)) (pe_gi (Y.gi 3 _ rfl) rfl) rfl) (pw_or1 (pt_not (pt_val (pe_callB (cr_all rfl) rfl (Y.fr 7 _ rfl) boot_all (pa_cons (pe_lc (own := [("one", 1)]) rfl sc_is_map.nd (pi_tup (pv 0)) (blkOk_by (N := N_is_map) (sc := defScope s_is_map) (by decide +kernel)) (fun _ _ _ _ _ => (pg_name (i := 1) sc_is_map.nd rfl (Or.inl rfl))) (fun _ _ _ _ _ => pts_nil) (fun _ _ _ _ _ => (pe_has h_is_thing hr (by decide) rfl (pa_cons (pv 1) pa_nil)))) pa_nil)))))))) (pss_one (ps_ret pe_bl)) pss_nil)
    (pss_one (ps_ret (pe_callB (cr_all rfl) rfl (Y.fr 7 _ rfl) boot_all (pa_cons (pe_lc (own := [("one", 1), ("other", 2)]) rfl sc_is_map.nd (RZ.pi_zipA rfl (Y.fr 12 _ rfl) (pa_cons (pv 0) (pa_cons (pe_slice sl_tupA (pv 0) (po_some pe_int) po_none) pa_nil))) (blkOk_by (N := N_is_map) (sc := defScope s_is_map) (by decide +kernel)) (fun _ _ _ _ _ => (pg_tup rfl (pgs_cons (pg_name (i := 1) sc_is_map.nd rfl (Or.inl rfl)) (pgs_cons (pg_name (i := 2) sc_is_map.nd rfl (Or.inl rfl)) pgs_nil)))) (fun _ _ _ _ _ => pts_nil) (fun _ _ _ _ _ => (pe_cmpR op_lt_str (pe_ix ix_tup (pv 1) pe_int (fun _ _ => rfl)) (pe_ix ix_tup (pv 2) pe_int (fun _ _ => rfl)) rfl))) pa_nil))))), run vs H Q E h⟩
  exact ⟨f, fd, G, gm, F.kp, b, FunD.bindsA F fun _ _ _ _ _ _ us hl => match us, hl with | [_], _ => rfl⟩
/-! ### is_between -/
abbrev N_is_between : List Str := ["value", "low", "high"]
theorem sc_is_between : FnScope N_is_between ["value", "low", "high"] (defScope s_is_between) := ⟨rfl, rfl, rfl, by decide +kernel, rfl, by decide +kernel, by decide +kernel⟩
def t_is_between (K : PySem.W.Frag) (Z : Cst) : TS :=
  (tRet (tAndV (tCB (rIsi K) (tCons (tVar 0) (tCons (tC (.ty "int")) tNil))) (tAndV (tNotV (tCB (rIsi K) (tCons (tVar 0) (tCons (tC (.ty "bool")) tNil)))) (tChain rLe rLe (tVar 1) (tVar 0) (tVar 2)))))
theorem ok_is_between {P : Program} {w : World} {K : PySem.W.Frag} {mg : Str → Option Value} {base : Heap} {Z : Cst} (Y : FX K mg Z) {sp : Sp} (len : ∀ vs H Q E, sp vs H Q E → vs.length = 3)
    (run : ∀ vs H Q E, sp vs H Q E → t_is_between K Z { nx := fun _ H' => Q .non H', rt := Q } (L2.start N_is_between vs) H) : Has P w K mg base 1 "is_between" ["value", "low", "high"] sp := by
  obtain ⟨f, fd, F, gm⟩ := Y.df 16 _ rfl
  have b : Binds K fd ["value", "low", "high"] [] := F.bindsN fun _ _ _ _ _ _ us hl => match us, hl with | [_, _, _], _ => rfl
  have G : FnOk P w K mg base CX0 1 f fd ["value", "low", "high"] sp := F.ok sc_is_between len fun cdv A outer s H vs Q E hr h => ⟨t_is_between K Z, PSs.nox (pss_one (ps_ret (pe_and (pe_callB call_isi rfl (Y.fr 0 _ rfl) boot_isinstance (pa_cons (pv 0) (pa_cons (pe_ty (Y.fr 1 _ rfl) rfl boot_int) pa_nil))) (pe_and (pe_not (pe_callB call_isi rfl (Y.fr 0 _ rfl) boot_isinstance (pa_cons (pv 0) (pa_cons (pe_ty (Y.fr 2 _ rfl) rfl boot_bool) pa_nil)))) (pe_one (pe_chain op_le op_le (pv 1) (pv 0) (pv 2))))))), run vs H Q E h⟩
  exact ⟨f, fd, G, gm, F.kp, b, FunD.bindsA F fun _ _ _ _ _ _ us hl => match us, hl with | [_, _, _], _ => rfl⟩
/-! ### is_scale -/
abbrev N_is_scale : List Str := ["value"]
theorem sc_is_scale : FnScope N_is_scale ["value"] (defScope s_is_scale) := ⟨rfl, rfl, rfl, by decide +kernel, rfl, by decide +kernel, by decide +kernel⟩
def t_is_scale (K : PySem.W.Frag) (Z : Cst) (p_is_between : Sp) : TS :=
  (tRet (tCall p_is_between [] E0 (tCons (tVar 0) (tCons (tC (.int 0)) (tCons (tC (.int 6)) tNil)))))
theorem ok_is_scale {P : Program} {w : World} {K : PySem.W.Frag} {mg : Str → Option Value} {base : Heap} {Z : Cst} (Y : FX K mg Z) {p_is_between : Sp} (h_is_between : Has P w K mg base 1 "is_between" ["value", "low", "high"] p_is_between) {sp : Sp} (len : ∀ vs H Q E, sp vs H Q E → vs.length = 1)
    (run : ∀ vs H Q E, sp vs H Q E → t_is_scale K Z p_is_between { nx := fun _ H' => Q .non H', rt := Q } (L2.start N_is_scale vs) H) : Has P w K mg base 2 "is_scale" ["value"] sp := by
  obtain ⟨f, fd, F, gm⟩ := Y.df 17 _ rfl
  have b : Binds K fd ["value"] [] := F.bindsN fun _ _ _ _ _ _ us hl => match us, hl with | [_], _ => rfl
  have G : FnOk P w K mg base CX0 2 f fd ["value"] sp := F.ok sc_is_scale len fun cdv A outer s H vs Q E hr h => ⟨t_is_scale K Z p_is_between, PSs.nox (pss_one (ps_ret (pe_has h_is_between hr (by decide) rfl (pa_cons (pv 0) (pa_cons pe_int (pa_cons (pe_gi (Y.gi 4 _ rfl) rfl) pa_nil)))))), run vs H Q E h⟩
  exact ⟨f, fd, G, gm, F.kp, b, FunD.bindsA F fun _ _ _ _ _ _ us hl => match us, hl with | [_], _ => rfl⟩
/-! ### is_look -/
abbrev N_is_look : List Str := ["value"]
theorem sc_is_look : FnScope N_is_look ["value"] (defScope s_is_look) := ⟨rfl, rfl, rfl, by decide +kernel, rfl, by decide +kernel, by decide +kernel⟩
def t_is_look (K : PySem.W.Frag) (Z : Cst) (p_is_between : Sp) : TS :=
  (tSeq (tIfS (tOr (tNot (tB (tCB (rIsi K) (tCons (tVar 0) (tCons (tC (.ty "tuple")) tNil))))) (tOr (tTest (tOp rL (tCB (rLenA K) (tCons (tVar 0) tNil)) (tC (.int 2)))) (tNot (tB (tCB (rIsi K) (tCons (tOp (rIxT K) (tVar 0) (tC (.int 0))) (tCons (tC (.ty "str")) tNil))))))) (tRet (tC (.bl false))) tNext)
  (tSeq (tIfS (tNot (tB (tCall p_is_between [] E0 (tCons (tOp (rIxT K) (tVar 0) (tC (.int 1))) (tCons (tC (.int 1)) (tCons (tC (.int 63)) tNil)))))) (tRet (tC (.bl false))) tNext)
  (tSeq (tIfS (tTest (tOp rEq (tOp (rIxT K) (tVar 0) (tC (.int 0))) (tC (.str "fill")))) (tRet (tOp rEq (tCB (rLenA K) (tCons (tVar 0) tNil)) (tC (.int 2)))) tNext)
  (tRet (tAndV (tOp (rIn K false) (tOp (rIxT K) (tVar 0) (tC (.int 0))) (tTup (tCons (tC (.str "stroke")) (tCons (tC (.str "dot")) tNil)))) (tAndV (tOp rEq (tCB (rLenA K) (tCons (tVar 0) tNil)) (tC (.int 3))) (tCall p_is_between [] E0 (tCons (tOp (rIxT K) (tVar 0) (tC (.int 2))) (tCons (tC (.int 1)) (tCons (tC (.int 16)) tNil))))))))))
theorem ok_is_look {P : Program} {w : World} {K : PySem.W.Frag} {mg : Str → Option Value} {base : Heap} {Z : Cst} (Y : FX K mg Z) {p_is_between : Sp} (h_is_between : Has P w K mg base 1 "is_between" ["value", "low", "high"] p_is_between) {sp : Sp} (len : ∀ vs H Q E, sp vs H Q E → vs.length = 1)
    (run : ∀ vs H Q E, sp vs H Q E → t_is_look K Z p_is_between { nx := fun _ H' => Q .non H', rt := Q } (L2.start N_is_look vs) H) : Has P w K mg base 2 "is_look" ["value"] sp := by
  obtain ⟨f, fd, F, gm⟩ := Y.df 18 _ rfl
  have b : Binds K fd ["value"] [] := F.bindsN fun _ _ _ _ _ _ us hl => match us, hl with | [_], _ => rfl
  have G : FnOk P w K mg base CX0 2 f fd ["value"] sp := F.ok sc_is_look len fun cdv A outer s H vs Q E hr h => ⟨t_is_look K Z p_is_between, PSs.nox (pss_cons (ps_if (PW.pt (pw_or (pt_not (pt_val (pe_callB call_isi rfl (Y.fr 0 _ rfl) boot_isinstance (pa_cons (pv 0) (pa_cons (pe_ty (Y.fr 3 _ rfl) rfl boot_tuple) pa_nil))))) (pw_or (pt_cmpR op_lt (pe_callB call_lenA rfl (Y.fr 6 _ rfl) boot_len (pa_cons (pv 0) pa_nil)) pe_int rfl) (pw_or1 (pt_not (pt_val (pe_callB call_isi rfl (Y.fr 0 _ rfl) boot_isinstance (pa_cons (pe_ix ix_tup (pv 0) pe_int (fun _ _ => rfl)) (pa_cons (pe_ty (Y.fr 4 _ rfl) rfl boot_str) pa_nil))))))))) (pss_one (ps_ret pe_bl)) pss_nil)
    (pss_cons (ps_if (pt_not (pt_val (pe_has h_is_between hr (by decide) rfl (pa_cons (pe_ix ix_tup (pv 0) pe_int (fun _ _ => rfl)) (pa_cons pe_int (pa_cons (pe_gi (Y.gi 5 _ rfl) rfl) pa_nil)))))) (pss_one (ps_ret pe_bl)) pss_nil)
    (pss_cons (ps_if (pt_cmpR op_eq (pe_ix ix_tup (pv 0) pe_int (fun _ _ => rfl)) pe_str rfl) (pss_one (ps_ret (pe_cmpR op_eq (pe_callB call_lenA rfl (Y.fr 6 _ rfl) boot_len (pa_cons (pv 0) pa_nil)) pe_int rfl))) pss_nil)
    (pss_one (ps_ret (pe_and (pe_cmpR op_in_seq (pe_ix ix_tup (pv 0) pe_int (fun _ _ => rfl)) (pe_tup (pa_cons pe_str (pa_cons pe_str pa_nil))) rfl) (pe_and (pe_cmpR op_eq (pe_callB call_lenA rfl (Y.fr 6 _ rfl) boot_len (pa_cons (pv 0) pa_nil)) pe_int rfl) (pe_one (pe_has h_is_between hr (by decide) rfl (pa_cons (pe_ix ix_tup (pv 0) pe_int (fun _ _ => rfl)) (pa_cons pe_int (pa_cons (pe_gi (Y.gi 6 _ rfl) rfl) pa_nil)))))))))))), run vs H Q E h⟩
  exact ⟨f, fd, G, gm, F.kp, b, FunD.bindsA F fun _ _ _ _ _ _ us hl => match us, hl with | [_], _ => rfl⟩
/-! ### is_rule -/
abbrev N_is_rule : List Str := ["value", "kind", "least", "most", "order", "look"]
theorem sc_is_rule : FnScope N_is_rule ["value"] (defScope s_is_rule) := ⟨rfl, rfl, rfl, by decide +kernel, rfl, by decide +kernel, by decide +kernel⟩
def t_is_rule (K : PySem.W.Frag) (Z : Cst) (p_is_name : Sp) (p_is_scale : Sp) (p_is_between : Sp) (p_is_look : Sp) : TS :=
  (tSeq (tIfS (tOr (tNot (tB (tCB (rIsi K) (tCons (tVar 0) (tCons (tC (.ty "tuple")) tNil))))) (tTest (tOp rNe (tCB (rLenA K) (tCons (tVar 0) tNil)) (tC (.int 5))))) (tRet (tC (.bl false))) tNext)
  (tSeq (tAsg (tVar 0) (gTup K 5 (gCons (gName 1) (gCons (gName 2) (gCons (gName 3) (gCons (gName 4) (gCons (gName 5) gNil)))))))
  (tSeq (tIfS (tOr (tNot (tB (tCB (rIsi K) (tCons (tVar 1) (tCons (tC (.ty "str")) tNil))))) (tAnd (tTest (tOp rNe (tVar 1) (tC (.str "")))) (tNot (tB (tCall p_is_name [] E0 (tCons (tVar 1) tNil)))))) (tRet (tC (.bl false))) tNext)
  (tSeq (tIfS (tOr (tNot (tB (tCall p_is_scale [] E0 (tCons (tVar 2) tNil)))) (tOr (tNot (tB (tCall p_is_scale [] E0 (tCons (tVar 3) tNil)))) (tTest (tOp rG (tVar 2) (tVar 3))))) (tRet (tC (.bl false))) tNext)
  (tRet (tAndV (tCall p_is_between [] E0 (tCons (tVar 4) (tCons (tUn (rU fun i => .int (-i)) (tC (.int 8))) (tCons (tC (.int 8)) tNil)))) (tCall p_is_look [] E0 (tCons (tVar 5) tNil))))))))
theorem ok_is_rule {P : Program} {w : World} {K : PySem.W.Frag} {mg : Str → Option Value} {base : Heap} {Z : Cst} (Y : FX K mg Z) {p_is_name : Sp} (h_is_name : Has P w K mg base 1 "is_name" ["value"] p_is_name) {p_is_scale : Sp} (h_is_scale : Has P w K mg base 2 "is_scale" ["value"] p_is_scale) {p_is_between : Sp} (h_is_between : Has P w K mg base 1 "is_between" ["value", "low", "high"] p_is_between) {p_is_look : Sp} (h_is_look : Has P w K mg base 2 "is_look" ["value"] p_is_look) {sp : Sp} (len : ∀ vs H Q E, sp vs H Q E → vs.length = 1)
    (run : ∀ vs H Q E, sp vs H Q E → t_is_rule K Z p_is_name p_is_scale p_is_between p_is_look { nx := fun _ H' => Q .non H', rt := Q } (L2.start N_is_rule vs) H) : Has P w K mg base 3 "is_rule" ["value"] sp := by
  obtain ⟨f, fd, F, gm⟩ := Y.df 19 _ rfl
  have b : Binds K fd ["value"] [] := F.bindsN fun _ _ _ _ _ _ us hl => match us, hl with | [_], _ => rfl
  have G : FnOk P w K mg base CX0 3 f fd ["value"] sp := F.ok sc_is_rule len fun cdv A outer s H vs Q E hr h => ⟨t_is_rule K Z p_is_name p_is_scale p_is_between p_is_look, PSs.nox (pss_cons (ps_if (PW.pt (pw_or (pt_not (pt_val (pe_callB call_isi rfl (Y.fr 0 _ rfl) boot_isinstance (pa_cons (pv 0) (pa_cons (pe_ty (Y.fr 3 _ rfl) rfl boot_tuple) pa_nil))))) (pw_or1 (pt_cmpR op_ne (pe_callB call_lenA rfl (Y.fr 6 _ rfl) boot_len (pa_cons (pv 0) pa_nil)) pe_int rfl)))) (pss_one (ps_ret pe_bl)) pss_nil)
    (pss_cons (ps_asg (pv 0) (pg_tup rfl (pgs_cons (pg_name (i := 1) sc_is_rule.nd rfl (Or.inl rfl)) (pgs_cons (pg_name (i := 2) sc_is_rule.nd rfl (Or.inl rfl)) (pgs_cons (pg_name (i := 3) sc_is_rule.nd rfl (Or.inl rfl)) (pgs_cons (pg_name (i := 4) sc_is_rule.nd rfl (Or.inl rfl)) (pgs_cons (pg_name (i := 5) sc_is_rule.nd rfl (Or.inl rfl)) pgs_nil)))))))
    (pss_cons (ps_if (PW.pt (pw_or (pt_not (pt_val (pe_callB call_isi rfl (Y.fr 0 _ rfl) boot_isinstance (pa_cons (pv 1) (pa_cons (pe_ty (Y.fr 4 _ rfl) rfl boot_str) pa_nil))))) (pw_or1 (PW.pt (pw_and (pt_cmpR op_ne (pv 1) pe_str rfl) (pw_and1 (pt_not (pt_val (pe_has h_is_name hr (by decide) rfl (pa_cons (pv 1) pa_nil)))))))))) (pss_one (ps_ret pe_bl)) pss_nil)
    (pss_cons (ps_if (PW.pt (pw_or (pt_not (pt_val (pe_has h_is_scale hr (by decide) rfl (pa_cons (pv 2) pa_nil)))) (pw_or (pt_not (pt_val (pe_has h_is_scale hr (by decide) rfl (pa_cons (pv 3) pa_nil)))) (pw_or1 (pt_cmpR op_gt (pv 2) (pv 3) rfl))))) (pss_one (ps_ret pe_bl)) pss_nil)
    (pss_one (ps_ret (pe_and (pe_has h_is_between hr (by decide) rfl (pa_cons (pv 4) (pa_cons (pe_un un_neg (pe_gi (Y.gi 7 _ rfl) rfl)) (pa_cons (pe_gi (Y.gi 7 _ rfl) rfl) pa_nil)))) (pe_one (pe_has h_is_look hr (by decide) rfl (pa_cons (pv 5) pa_nil)))))))))), run vs H Q E h⟩
  exact ⟨f, fd, G, gm, F.kp, b, FunD.bindsA F fun _ _ _ _ _ _ us hl => match us, hl with | [_], _ => rfl⟩
/-! ### is_style -/
abbrev N_is_style : List Str := ["value", "rule"]
theorem sc_is_style : FnScope N_is_style ["value"] (defScope s_is_style) := ⟨rfl, rfl, rfl, by decide +kernel, rfl, by decide +kernel, by decide +kernel⟩
def t_is_style (K : PySem.W.Frag) (Z : Cst) (p_is_rule : Sp) : TS :=
  (tRet (tAndV (tCB (rIsi K) (tCons (tVar 0) (tCons (tC (.ty "tuple")) tNil))) (tAndV (tOp rLe (tCB (rLenA K) (tCons (tVar 0) tNil)) (tC (.int 12))) (tCB (rAll K) (tCons (tLc (iTup K (tVar 0)) (gName 1) tYes (tCall p_is_rule [] E0 (tCons (tVar 1) tNil)) [1]) tNil)))))
theorem ok_is_style {P : Program} {w : World} {K : PySem.W.Frag} {mg : Str → Option Value} {base : Heap} {Z : Cst} (Y : FX K mg Z) {p_is_rule : Sp} (h_is_rule : Has P w K mg base 3 "is_rule" ["value"] p_is_rule) {sp : Sp} (len : ∀ vs H Q E, sp vs H Q E → vs.length = 1)
    (run : ∀ vs H Q E, sp vs H Q E → t_is_style K Z p_is_rule { nx := fun _ H' => Q .non H', rt := Q } (L2.start N_is_style vs) H) : Has P w K mg base 4 "is_style" ["value"] sp := by
  obtain ⟨f, fd, F, gm⟩ := Y.df 20 _ rfl
  have b : Binds K fd ["value"] [] := F.bindsN fun _ _ _ _ _ _ us hl => match us, hl with | [_], _ => rfl
  have G : FnOk P w K mg base CX0 4 f fd ["value"] sp := F.ok sc_is_style len fun cdv A outer s H vs Q E hr h => ⟨t_is_style K Z p_is_rule, PSs.nox (pss_one (ps_ret (pe_and (pe_callB call_isi rfl (Y.fr 0 _ rfl) boot_isinstance (pa_cons (pv 0) (pa_cons (pe_ty (Y.fr 3 _ rfl) rfl boot_tuple) pa_nil))) (pe_and (pe_cmpR op_le (pe_callB call_lenA rfl (Y.fr 6 _ rfl) boot_len (pa_cons (pv 0) pa_nil)) (pe_gi (Y.gi 8 _ rfl) rfl) rfl) (pe_one (pe_callB (cr_all rfl) rfl (Y.fr 7 _ rfl) boot_all (pa_cons (pe_lc (own := [("rule", 1)]) rfl sc_is_style.nd (pi_tup (pv 0)) (blkOk_by (N := N_is_style) (sc := defScope s_is_style) (by decide +kernel)) (fun _ _ _ _ _ => (pg_name (i := 1) sc_is_style.nd rfl (Or.inl rfl))) (fun _ _ _ _ _ => pts_nil) (fun _ _ _ _ _ => (pe_has h_is_rule hr (by decide) rfl (pa_cons (pv 1) pa_nil)))) pa_nil))))))), run vs H Q E h⟩
  exact ⟨f, fd, G, gm, F.kp, b, FunD.bindsA F fun _ _ _ _ _ _ us hl => match us, hl with | [_], _ => rfl⟩
/-! ### check_style -/
abbrev N_check_style : List Str := ["style"]
theorem sc_check_style : FnScope N_check_style ["style"] (defScope s_check_style) := ⟨rfl, rfl, rfl, by decide +kernel, rfl, by decide +kernel, by decide +kernel⟩
def t_check_style (K : PySem.W.Frag) (Z : Cst) (p_is_style : Sp) : TS :=
  (tIfS (tNot (tB (tCall p_is_style [] E0 (tCons (tVar 0) tNil)))) tNever tNext)
theorem ok_check_style {P : Program} {w : World} {K : PySem.W.Frag} {mg : Str → Option Value} {base : Heap} {Z : Cst} (Y : FX K mg Z) {p_is_style : Sp} (h_is_style : Has P w K mg base 4 "is_style" ["value"] p_is_style) {sp : Sp} (len : ∀ vs H Q E, sp vs H Q E → vs.length = 1)
    (run : ∀ vs H Q E, sp vs H Q E → t_check_style K Z p_is_style { nx := fun _ H' => Q .non H', rt := Q } (L2.start N_check_style vs) H) : Has P w K mg base 5 "check_style" ["style"] sp := by
  obtain ⟨f, fd, F, gm⟩ := Y.df 21 _ rfl
  have b : Binds K fd ["style"] [] := F.bindsN fun _ _ _ _ _ _ us hl => match us, hl with | [_], _ => rfl
  have G : FnOk P w K mg base CX0 5 f fd ["style"] sp := F.ok sc_check_style len fun cdv A outer s H vs Q E hr h => ⟨t_check_style K Z p_is_style, PSs.nox (pss_one (ps_if (pt_not (pt_val (pe_has h_is_style hr (by decide) rfl (pa_cons (pv 0) pa_nil)))) (pss_one ps_never) pss_nil)), run vs H Q E h⟩
  exact ⟨f, fd, G, gm, F.kp, b, FunD.bindsA F fun _ _ _ _ _ _ us hl => match us, hl with | [_], _ => rfl⟩
/-! ### check_scale -/
abbrev N_check_scale : List Str := ["scale"]
theorem sc_check_scale : FnScope N_check_scale ["scale"] (defScope s_check_scale) := ⟨rfl, rfl, rfl, by decide +kernel, rfl, by decide +kernel, by decide +kernel⟩
def t_check_scale (K : PySem.W.Frag) (Z : Cst) (p_is_scale : Sp) : TS :=
  (tIfS (tNot (tB (tCall p_is_scale [] E0 (tCons (tVar 0) tNil)))) tNever tNext)
theorem ok_check_scale {P : Program} {w : World} {K : PySem.W.Frag} {mg : Str → Option Value} {base : Heap} {Z : Cst} (Y : FX K mg Z) {p_is_scale : Sp} (h_is_scale : Has P w K mg base 2 "is_scale" ["value"] p_is_scale) {sp : Sp} (len : ∀ vs H Q E, sp vs H Q E → vs.length = 1)
    (run : ∀ vs H Q E, sp vs H Q E → t_check_scale K Z p_is_scale { nx := fun _ H' => Q .non H', rt := Q } (L2.start N_check_scale vs) H) : Has P w K mg base 3 "check_scale" ["scale"] sp := by
  obtain ⟨f, fd, F, gm⟩ := Y.df 22 _ rfl
  have b : Binds K fd ["scale"] [] := F.bindsN fun _ _ _ _ _ _ us hl => match us, hl with | [_], _ => rfl
  have G : FnOk P w K mg base CX0 3 f fd ["scale"] sp := F.ok sc_check_scale len fun cdv A outer s H vs Q E hr h => ⟨t_check_scale K Z p_is_scale, PSs.nox (pss_one (ps_if (pt_not (pt_val (pe_has h_is_scale hr (by decide) rfl (pa_cons (pv 0) pa_nil)))) (pss_one ps_never) pss_nil)), run vs H Q E h⟩
  exact ⟨f, fd, G, gm, F.kp, b, FunD.bindsA F fun _ _ _ _ _ _ us hl => match us, hl with | [_], _ => rfl⟩
/-! ### check_map -/
abbrev N_check_map : List Str := ["map_things"]
theorem sc_check_map : FnScope N_check_map ["map_things"] (defScope s_check_map) := ⟨rfl, rfl, rfl, by decide +kernel, rfl, by decide +kernel, by decide +kernel⟩
def t_check_map (K : PySem.W.Frag) (Z : Cst) (p_is_map : Sp) : TS :=
  (tIfS (tNot (tB (tCall p_is_map [] E0 (tCons (tVar 0) tNil)))) tNever tNext)
theorem ok_check_map {P : Program} {w : World} {K : PySem.W.Frag} {mg : Str → Option Value} {base : Heap} {Z : Cst} (Y : FX K mg Z) {p_is_map : Sp} (h_is_map : Has P w K mg base 7 "is_map" ["value"] p_is_map) {sp : Sp} (len : ∀ vs H Q E, sp vs H Q E → vs.length = 1)
    (run : ∀ vs H Q E, sp vs H Q E → t_check_map K Z p_is_map { nx := fun _ H' => Q .non H', rt := Q } (L2.start N_check_map vs) H) : Has P w K mg base 8 "check_map" ["map_things"] sp := by
  obtain ⟨f, fd, F, gm⟩ := Y.df 23 _ rfl
  have b : Binds K fd ["map_things"] [] := F.bindsN fun _ _ _ _ _ _ us hl => match us, hl with | [_], _ => rfl
  have G : FnOk P w K mg base CX0 8 f fd ["map_things"] sp := F.ok sc_check_map len fun cdv A outer s H vs Q E hr h => ⟨t_check_map K Z p_is_map, PSs.nox (pss_one (ps_if (pt_not (pt_val (pe_has h_is_map hr (by decide) rfl (pa_cons (pv 0) pa_nil)))) (pss_one ps_never) pss_nil)), run vs H Q E h⟩
  exact ⟨f, fd, G, gm, F.kp, b, FunD.bindsA F fun _ _ _ _ _ _ us hl => match us, hl with | [_], _ => rfl⟩
/-! ### fits -/
abbrev N_fits : List Str := ["look", "shape"]
theorem sc_fits : FnScope N_fits ["look", "shape"] (defScope s_fits) := ⟨rfl, rfl, rfl, by decide +kernel, rfl, by decide +kernel, by decide +kernel⟩
def t_fits (K : PySem.W.Frag) (Z : Cst) : TS :=
  (tRet (tOp (rIn K false) (tOp (rIxT K) (tVar 1) (tC (.int 0))) (tOp (rIxD K Z.w) (tC (.ref Z.aF)) (tOp (rIxT K) (tVar 0) (tC (.int 0))))))
theorem ok_fits {P : Program} {w : World} {K : PySem.W.Frag} {mg : Str → Option Value} {base : Heap} {Z : Cst} (Y : FX K mg Z) (hw : Z.w = w) {sp : Sp} (len : ∀ vs H Q E, sp vs H Q E → vs.length = 2)
    (run : ∀ vs H Q E, sp vs H Q E → t_fits K Z { nx := fun _ H' => Q .non H', rt := Q } (L2.start N_fits vs) H) : Has P w K mg base 1 "fits" ["look", "shape"] sp := by
  obtain ⟨f, fd, F, gm⟩ := Y.df 24 _ rfl
  subst hw
  have b : Binds K fd ["look", "shape"] [] := F.bindsN fun _ _ _ _ _ _ us hl => match us, hl with | [_, _], _ => rfl
  have G : FnOk P Z.w K mg base CX0 1 f fd ["look", "shape"] sp := F.ok sc_fits len fun cdv A outer s H vs Q E hr h => ⟨t_fits K Z, PSs.nox (pss_one (ps_ret (pe_cmpR op_in_seq (pe_ix ix_tup (pv 1) pe_int (fun _ _ => rfl)) (pe_ix ix_kdict (pe_gr Y.mgF rfl) (pe_ix ix_tup (pv 0) pe_int (fun _ _ => rfl)) (fun _ _ => rfl)) rfl))), run vs H Q E h⟩
  exact ⟨f, fd, G, gm, F.kp, b, FunD.bindsA F fun _ _ _ _ _ _ us hl => match us, hl with | [_, _], _ => rfl⟩
/-! ### applying_rules -/
abbrev N_applying_rules : List Str := ["style", "thing", "scale", "found", "at", "kind", "least", "most", "_", "look"]
theorem sc_applying_rules : FnScope N_applying_rules ["style", "thing", "scale"] (defScope s_applying_rules) := ⟨rfl, rfl, rfl, by decide +kernel, rfl, by decide +kernel, by decide +kernel⟩
def t_applying_rules (K : PySem.W.Frag) (Z : Cst) (p_fits : Sp) : TS :=
  (tSeq (tAsg (tLst tNil) (gName 3))
  (tSeq (tFor (TX.iEnumT K (tCons (tVar 0) tNil)) (gTup K 2 (gCons (gName 4) (gCons (gTup K 5 (gCons (gName 5) (gCons (gName 6) (gCons (gName 7) (gCons (gName 8) (gCons (gName 9) gNil)))))) gNil))) (tIfS (tAnd (tTest (tOp (rIn K false) (tVar 5) (tTup (tCons (tC (.str "")) (tCons (tOp (rIxT K) (tVar 1) (tC (.int 1))) tNil))))) (tAnd (tTest (tChain rLe rLe (tVar 6) (tVar 2) (tVar 7))) (tB (tCall p_fits [] E0 (tCons (tVar 9) (tCons (tOp (rIxT K) (tVar 1) (tC (.int 2))) tNil)))))) (tDrop (tBM K "list" rAppend (tVar 3) (tCons (tVar 4) tNil))) tNext))
  (tRet (tVar 3))))
theorem ok_applying_rules {P : Program} {w : World} {K : PySem.W.Frag} {mg : Str → Option Value} {base : Heap} {Z : Cst} (Y : FX K mg Z) {p_fits : Sp} (h_fits : Has P w K mg base 1 "fits" ["look", "shape"] p_fits) {sp : Sp} (len : ∀ vs H Q E, sp vs H Q E → vs.length = 3)
    (run : ∀ vs H Q E, sp vs H Q E → t_applying_rules K Z p_fits { nx := fun _ H' => Q .non H', rt := Q } (L2.start N_applying_rules vs) H) : Has P w K mg base 2 "applying_rules" ["style", "thing", "scale"] sp := by
  obtain ⟨f, fd, F, gm⟩ := Y.df 25 _ rfl
  have b : Binds K fd ["style", "thing", "scale"] [] := F.bindsN fun _ _ _ _ _ _ us hl => match us, hl with | [_, _, _], _ => rfl
  have G : FnOk P w K mg base CX0 2 f fd ["style", "thing", "scale"] sp := F.ok sc_applying_rules len fun cdv A outer s H vs Q E hr h => ⟨t_applying_rules K Z p_fits, PSs.nox (pss_cons (ps_set (i := 3) sc_applying_rules.nd rfl (Or.inl rfl) (pe_lst pa_nil))
    (pss_cons (ps_for PassesOwn.never rfl (TX.pi_enumT rfl (Y.fr 14 _ rfl) (pa_cons (pv 0) pa_nil)) (pg_tup rfl (pgs_cons (pg_name (i := 4) sc_applying_rules.nd rfl (Or.inl rfl)) (pgs_cons (pg_tup rfl (pgs_cons (pg_name (i := 5) sc_applying_rules.nd rfl (Or.inl rfl)) (pgs_cons (pg_name (i := 6) sc_applying_rules.nd rfl (Or.inl rfl)) (pgs_cons (pg_name (i := 7) sc_applying_rules.nd rfl (Or.inl rfl)) (pgs_cons (pg_name (i := 8) sc_applying_rules.nd rfl (Or.inl rfl)) (pgs_cons (pg_name (i := 9) sc_applying_rules.nd rfl (Or.inl rfl)) pgs_nil)))))) pgs_nil))) (pss_one (ps_if (PW.pt (pw_and (pt_cmpR op_in_seq (pv 5) (pe_tup (pa_cons pe_str (pa_cons (pe_ix ix_tup (pv 1) pe_int (fun _ _ => rfl)) pa_nil))) rfl) (pw_and (pt_chain op_le op_le (pv 6) (pv 2) (pv 7)) (pw_and1 (pt_val (pe_has h_fits hr (by decide) rfl (pa_cons (pv 9) (pa_cons (pe_ix ix_tup (pv 1) pe_int (fun _ _ => rfl)) pa_nil)))))))) (pss_one (ps_expr (pe_bm PySem.F.plainAttrs_list PySem.F.slot_list_append PySem.F.type_list_append mt_append (pv 3) (pa_cons (pv 4) pa_nil)))) pss_nil)))
    (pss_one (ps_ret (pv 3))))), run vs H Q E h⟩
  exact ⟨f, fd, G, gm, F.kp, b, FunD.bindsA F fun _ _ _ _ _ _ us hl => match us, hl with | [_, _, _], _ => rfl⟩
/-! ### marks_of -/
abbrev N_marks_of : List Str := ["map_things", "style", "scale", "found", "thing", "at"]
theorem sc_marks_of : FnScope N_marks_of ["map_things", "style", "scale"] (defScope s_marks_of) := ⟨rfl, rfl, rfl, by decide +kernel, rfl, by decide +kernel, by decide +kernel⟩
def t_marks_of (K : PySem.W.Frag) (Z : Cst) (p_applying_rules : Sp) : TS :=
  (tSeq (tAsg (tLst tNil) (gName 3))
  (tSeq (tFor (iTup K (tVar 0)) (gName 4) (tFor (iList K (tCall p_applying_rules [] E0 (tCons (tVar 1) (tCons (tVar 4) (tCons (tVar 2) tNil))))) (gName 5) (tDrop (tBM K "list" rAppend (tVar 3) (tCons (tTup (tCons (tOp (rIxT K) (tOp (rIxT K) (tVar 1) (tVar 5)) (tC (.int 3))) (tCons (tVar 5) (tCons (tOp (rIxT K) (tVar 4) (tC (.int 0))) tNil)))) tNil)))))
  (tRet (tCB (TX.rSortD K) (tCons (tVar 3) tNil)))))
theorem ok_marks_of {P : Program} {w : World} {K : PySem.W.Frag} {mg : Str → Option Value} {base : Heap} {Z : Cst} (Y : FX K mg Z) {p_applying_rules : Sp} (h_applying_rules : Has P w K mg base 2 "applying_rules" ["style", "thing", "scale"] p_applying_rules) {sp : Sp} (len : ∀ vs H Q E, sp vs H Q E → vs.length = 3)
    (run : ∀ vs H Q E, sp vs H Q E → t_marks_of K Z p_applying_rules { nx := fun _ H' => Q .non H', rt := Q } (L2.start N_marks_of vs) H) : Has P w K mg base 3 "marks_of" ["map_things", "style", "scale"] sp := by
  obtain ⟨f, fd, F, gm⟩ := Y.df 26 _ rfl
  have b : Binds K fd ["map_things", "style", "scale"] [] := F.bindsN fun _ _ _ _ _ _ us hl => match us, hl with | [_, _, _], _ => rfl
  have G : FnOk P w K mg base CX0 3 f fd ["map_things", "style", "scale"] sp := F.ok sc_marks_of len fun cdv A outer s H vs Q E hr h => ⟨t_marks_of K Z p_applying_rules, PSs.nox (pss_cons (ps_set (i := 3) sc_marks_of.nd rfl (Or.inl rfl) (pe_lst pa_nil))
    (pss_cons (ps_for PassesOwn.never rfl (pi_tup (pv 0)) (pg_name (i := 4) sc_marks_of.nd rfl (Or.inl rfl)) (pss_one (ps_for PassesOwn.never rfl (pi_list (pe_has h_applying_rules hr (by decide) rfl (pa_cons (pv 1) (pa_cons (pv 4) (pa_cons (pv 2) pa_nil))))) (pg_name (i := 5) sc_marks_of.nd rfl (Or.inl rfl)) (pss_one (ps_expr (pe_bm PySem.F.plainAttrs_list PySem.F.slot_list_append PySem.F.type_list_append mt_append (pv 3) (pa_cons (pe_tup (pa_cons (pe_ix ix_tup (pe_ix ix_tup (pv 1) (pv 5) (fun _ _ => rfl)) pe_int (fun _ _ => rfl)) (pa_cons (pv 5) (pa_cons (pe_ix ix_tup (pv 4) pe_int (fun _ _ => rfl)) pa_nil)))) pa_nil)))))))
    (pss_one (ps_ret (pe_callB (TX.call_sortD (Room.units hr)) rfl (Y.fr 13 _ rfl) boot_sorted (pa_cons (pv 3) pa_nil)))))), run vs H Q E h⟩
  exact ⟨f, fd, G, gm, F.kp, b, FunD.bindsA F fun _ _ _ _ _ _ us hl => match us, hl with | [_, _, _], _ => rfl⟩
/-! ### is_pixel -/
abbrev N_is_pixel : List Str := ["value"]
theorem sc_is_pixel : FnScope N_is_pixel ["value"] (defScope s_is_pixel) := ⟨rfl, rfl, rfl, by decide +kernel, rfl, by decide +kernel, by decide +kernel⟩
def t_is_pixel (K : PySem.W.Frag) (Z : Cst) (p_is_between : Sp) : TS :=
  (tRet (tCall p_is_between [] E0 (tCons (tVar 0) (tCons (tC (.int (-2048))) (tCons (tC (.int 2047)) tNil)))))
theorem ok_is_pixel {P : Program} {w : World} {K : PySem.W.Frag} {mg : Str → Option Value} {base : Heap} {Z : Cst} (Y : FX K mg Z) {p_is_between : Sp} (h_is_between : Has P w K mg base 1 "is_between" ["value", "low", "high"] p_is_between) {sp : Sp} (len : ∀ vs H Q E, sp vs H Q E → vs.length = 1)
    (run : ∀ vs H Q E, sp vs H Q E → t_is_pixel K Z p_is_between { nx := fun _ H' => Q .non H', rt := Q } (L2.start N_is_pixel vs) H) : Has P w K mg base 2 "is_pixel" ["value"] sp := by
  obtain ⟨f, fd, F, gm⟩ := Y.df 27 _ rfl
  have b : Binds K fd ["value"] [] := F.bindsN fun _ _ _ _ _ _ us hl => match us, hl with | [_], _ => rfl
  have G : FnOk P w K mg base CX0 2 f fd ["value"] sp := F.ok sc_is_pixel len fun cdv A outer s H vs Q E hr h => ⟨t_is_pixel K Z p_is_between, PSs.nox (pss_one (ps_ret (pe_has h_is_between hr (by decide) rfl (pa_cons (pv 0) (pa_cons (pe_gi (Y.gi 9 _ rfl) rfl) (pa_cons (pe_gi (Y.gi 10 _ rfl) rfl) pa_nil)))))), run vs H Q E h⟩
  exact ⟨f, fd, G, gm, F.kp, b, FunD.bindsA F fun _ _ _ _ _ _ us hl => match us, hl with | [_], _ => rfl⟩
/-! ### centre_of -/
abbrev N_centre_of : List Str := ["scale", "px", "py", "unit"]
theorem sc_centre_of : FnScope N_centre_of ["scale", "px", "py"] (defScope s_centre_of) := ⟨rfl, rfl, rfl, by decide +kernel, rfl, by decide +kernel, by decide +kernel⟩
def t_centre_of (K : PySem.W.Frag) (Z : Cst) : TS :=
  (tSeq (tAsg (tOp (rIxT K) (tC (.ref Z.aU)) (tVar 0)) (gName 3))
  (tRet (tTup (tCons (tOp rMu (tVar 3) (tOp rAd (tOp rMu (tC (.int 2)) (tVar 1)) (tC (.int 1)))) (tCons (tOp rMu (tVar 3) (tOp rAd (tOp rMu (tC (.int 2)) (tVar 2)) (tC (.int 1)))) tNil)))))
theorem ok_centre_of {P : Program} {w : World} {K : PySem.W.Frag} {mg : Str → Option Value} {base : Heap} {Z : Cst} (Y : FX K mg Z) {sp : Sp} (len : ∀ vs H Q E, sp vs H Q E → vs.length = 3)
    (run : ∀ vs H Q E, sp vs H Q E → t_centre_of K Z { nx := fun _ H' => Q .non H', rt := Q } (L2.start N_centre_of vs) H) : Has P w K mg base 1 "centre_of" ["scale", "px", "py"] sp := by
  obtain ⟨f, fd, F, gm⟩ := Y.df 28 _ rfl
  have b : Binds K fd ["scale", "px", "py"] [] := F.bindsN fun _ _ _ _ _ _ us hl => match us, hl with | [_, _, _], _ => rfl
  have G : FnOk P w K mg base CX0 1 f fd ["scale", "px", "py"] sp := F.ok sc_centre_of len fun cdv A outer s H vs Q E hr h => ⟨t_centre_of K Z, PSs.nox (pss_cons (ps_set (i := 3) sc_centre_of.nd rfl (Or.inl rfl) (pe_ix ix_tup (pe_gr Y.mgU rfl) (pv 0) (fun _ _ => rfl)))
    (pss_one (ps_ret (pe_tup (pa_cons (pe_op op_mul (pv 3) (pe_op op_add (pe_op op_mul pe_int (pv 1)) pe_int)) (pa_cons (pe_op op_mul (pv 3) (pe_op op_add (pe_op op_mul pe_int (pv 2)) pe_int)) pa_nil)))))), run vs H Q E h⟩
  exact ⟨f, fd, G, gm, F.kp, b, FunD.bindsA F fun _ _ _ _ _ _ us hl => match us, hl with | [_, _, _], _ => rfl⟩
/-! ### doubled -/
abbrev N_doubled : List Str := ["point"]
theorem sc_doubled : FnScope N_doubled ["point"] (defScope s_doubled) := ⟨rfl, rfl, rfl, by decide +kernel, rfl, by decide +kernel, by decide +kernel⟩
def t_doubled (K : PySem.W.Frag) (Z : Cst) : TS :=
  (tRet (tTup (tCons (tOp rMu (tC (.int 2)) (tOp (rIxT K) (tVar 0) (tC (.int 0)))) (tCons (tOp rMu (tC (.int 2)) (tOp (rIxT K) (tVar 0) (tC (.int 1)))) tNil))))
theorem ok_doubled {P : Program} {w : World} {K : PySem.W.Frag} {mg : Str → Option Value} {base : Heap} {Z : Cst} (Y : FX K mg Z) {sp : Sp} (len : ∀ vs H Q E, sp vs H Q E → vs.length = 1)
    (run : ∀ vs H Q E, sp vs H Q E → t_doubled K Z { nx := fun _ H' => Q .non H', rt := Q } (L2.start N_doubled vs) H) : Has P w K mg base 1 "doubled" ["point"] sp := by
  obtain ⟨f, fd, F, gm⟩ := Y.df 29 _ rfl
  have b : Binds K fd ["point"] [] := F.bindsN fun _ _ _ _ _ _ us hl => match us, hl with | [_], _ => rfl
  have G : FnOk P w K mg base CX0 1 f fd ["point"] sp := F.ok sc_doubled len fun cdv A outer s H vs Q E hr h => ⟨t_doubled K Z, PSs.nox (pss_one (ps_ret (pe_tup (pa_cons (pe_op op_mul pe_int (pe_ix ix_tup (pv 0) pe_int (fun _ _ => rfl))) (pa_cons (pe_op op_mul pe_int (pe_ix ix_tup (pv 0) pe_int (fun _ _ => rfl))) pa_nil))))), run vs H Q E h⟩
  exact ⟨f, fd, G, gm, F.kp, b, FunD.bindsA F fun _ _ _ _ _ _ us hl => match us, hl with | [_], _ => rfl⟩
/-! ### ways_of -/
abbrev N_ways_of : List Str := ["points", "closed", "rows", "point"]
theorem sc_ways_of : FnScope N_ways_of ["points", "closed"] (defScope s_ways_of) := ⟨rfl, rfl, rfl, by decide +kernel, rfl, by decide +kernel, by decide +kernel⟩
def t_ways_of (K : PySem.W.Frag) (Z : Cst) (p_doubled : Sp) : TS :=
  (tSeq (tAsg (tLc (iTup K (tVar 0)) (gName 3) tYes (tCall p_doubled [] E0 (tCons (tVar 3) tNil)) [3]) (gName 2))
  (tSeq (tIfS (tB (tVar 1)) (tDrop (tBM K "list" rAppend (tVar 2) (tCons (tOp (rIxL K) (tVar 2) (tC (.int 0))) tNil))) tNext)
  (tRet (TX.tLZ K (tCons (tVar 2) (tCons (tSl (rSlL K) (tVar 2) (tPart (tC (.int 1))) tNoPart) tNil))))))
theorem ok_ways_of {P : Program} {w : World} {K : PySem.W.Frag} {mg : Str → Option Value} {base : Heap} {Z : Cst} (Y : FX K mg Z) {p_doubled : Sp} (h_doubled : Has P w K mg base 1 "doubled" ["point"] p_doubled) {sp : Sp} (len : ∀ vs H Q E, sp vs H Q E → vs.length = 2)
    (run : ∀ vs H Q E, sp vs H Q E → t_ways_of K Z p_doubled { nx := fun _ H' => Q .non H', rt := Q } (L2.start N_ways_of vs) H) : Has P w K mg base 2 "ways_of" ["points", "closed"] sp := by
  obtain ⟨f, fd, F, gm⟩ := Y.df 30 _ rfl
  have b : Binds K fd ["points", "closed"] [] := F.bindsN fun _ _ _ _ _ _ us hl => match us, hl with | [_, _], _ => rfl
  have G : FnOk P w K mg base CX0 2 f fd ["points", "closed"] sp := F.ok sc_ways_of len fun cdv A outer s H vs Q E hr h => ⟨t_ways_of K Z p_doubled, PSs.nox (pss_cons (ps_setLc (own := [("point", 3)]) (i := 2) rfl sc_ways_of.nd rfl rfl (sw_true rfl rfl rfl (by decide +kernel)) (pi_tup (pv 0)) (blkOk_by (N := N_ways_of) (sc := defScope s_ways_of) (by decide +kernel)) (fun _ _ _ _ _ => (pg_name (i := 3) sc_ways_of.nd rfl (Or.inl rfl))) (fun _ _ _ _ _ => pts_nil) (fun _ _ _ _ _ => (pe_has h_doubled hr (by decide) rfl (pa_cons (pv 3) pa_nil))))
    (pss_cons (ps_if (pt_val (pv 1)) (pss_one (ps_expr (pe_bm PySem.F.plainAttrs_list PySem.F.slot_list_append PySem.F.type_list_append mt_append (pv 2) (pa_cons (pe_ix ix_list (pv 2) pe_int (fun _ _ => rfl)) pa_nil)))) pss_nil)
    (pss_one (ps_ret (TX.pe_lzip rfl (Y.fr 5 _ rfl) rfl (Y.fr 12 _ rfl) (pa_cons (pv 2) (pa_cons (pe_slice sl_list (pv 2) (po_some pe_int) po_none) pa_nil))))))), run vs H Q E h⟩
  exact ⟨f, fd, G, gm, F.kp, b, FunD.bindsA F fun _ _ _ _ _ _ us hl => match us, hl with | [_, _], _ => rfl⟩
/-! ### edges_of -/
abbrev N_edges_of : List Str := ["shape", "found", "ring"]
theorem sc_edges_of : FnScope N_edges_of ["shape"] (defScope s_edges_of) := ⟨rfl, rfl, rfl, by decide +kernel, rfl, by decide +kernel, by decide +kernel⟩
def t_edges_of (K : PySem.W.Frag) (Z : Cst) (p_ways_of : Sp) : TS :=
  (tSeq (tIfS (tTest (tOp rEq (tOp (rIxT K) (tVar 0) (tC (.int 0))) (tC (.str "line")))) (tRet (tCall p_ways_of [] E0 (tCons (tOp (rIxT K) (tVar 0) (tC (.int 1))) (tCons (tC (.bl false)) tNil)))) tNext)
  (tSeq (tAsg (tLst tNil) (gName 1))
  (tSeq (tFor (iTup K (tOp (rIxT K) (tVar 0) (tC (.int 1)))) (gName 2) (tDrop (tBM K "list" rExtend (tVar 1) (tCons (tCall p_ways_of [] E0 (tCons (tVar 2) (tCons (tC (.bl true)) tNil))) tNil))))
  (tRet (tVar 1)))))
theorem ok_edges_of {P : Program} {w : World} {K : PySem.W.Frag} {mg : Str → Option Value} {base : Heap} {Z : Cst} (Y : FX K mg Z) {p_ways_of : Sp} (h_ways_of : Has P w K mg base 2 "ways_of" ["points", "closed"] p_ways_of) {sp : Sp} (len : ∀ vs H Q E, sp vs H Q E → vs.length = 1)
    (run : ∀ vs H Q E, sp vs H Q E → t_edges_of K Z p_ways_of { nx := fun _ H' => Q .non H', rt := Q } (L2.start N_edges_of vs) H) : Has P w K mg base 3 "edges_of" ["shape"] sp := by
  obtain ⟨f, fd, F, gm⟩ := Y.df 31 _ rfl
  have b : Binds K fd ["shape"] [] := F.bindsN fun _ _ _ _ _ _ us hl => match us, hl with | [_], _ => rfl
  have G : FnOk P w K mg base CX0 3 f fd ["shape"] sp := F.ok sc_edges_of len fun cdv A outer s H vs Q E hr h => ⟨t_edges_of K Z p_ways_of, PSs.nox (pss_cons (ps_if (pt_cmpR op_eq (pe_ix ix_tup (pv 0) pe_int (fun _ _ => rfl)) pe_str rfl) (pss_one (ps_ret (pe_has h_ways_of hr (by decide) rfl (pa_cons (pe_ix ix_tup (pv 0) pe_int (fun _ _ => rfl)) (pa_cons pe_bl pa_nil))))) pss_nil)
    (pss_cons (ps_set (i := 1) sc_edges_of.nd rfl (Or.inl rfl) (pe_lst pa_nil))
    (pss_cons (ps_for PassesOwn.never rfl (pi_tup (pe_ix ix_tup (pv 0) pe_int (fun _ _ => rfl))) (pg_name (i := 2) sc_edges_of.nd rfl (Or.inl rfl)) (pss_one (ps_expr (pe_bm PySem.F.plainAttrs_list PySem.F.slot_list_extend PySem.F.type_list_extend mt_extend (pv 1) (pa_cons (pe_has h_ways_of hr (by decide) rfl (pa_cons (pv 2) (pa_cons pe_bl pa_nil))) pa_nil)))))
    (pss_one (ps_ret (pv 1)))))), run vs H Q E h⟩
  exact ⟨f, fd, G, gm, F.kp, b, FunD.bindsA F fun _ _ _ _ _ _ us hl => match us, hl with | [_], _ => rfl⟩
/-! ### is_east -/
abbrev N_is_east : List Str := ["centre", "edge", "low", "high", "rise"]
theorem sc_is_east : FnScope N_is_east ["centre", "edge"] (defScope s_is_east) := ⟨rfl, rfl, rfl, by decide +kernel, rfl, by decide +kernel, by decide +kernel⟩
def t_is_east (K : PySem.W.Frag) (Z : Cst) : TS :=
  (tSeq (tAsg (tVar 1) (gTup K 2 (gCons (gName 2) (gCons (gName 3) gNil))))
  (tSeq (tIfS (tTest (tOp rG (tOp (rIxT K) (tVar 2) (tC (.int 1))) (tOp (rIxT K) (tVar 3) (tC (.int 1))))) (tPar 2 3 (tCons (tVar 3) (tCons (tVar 2) tNil))) tNext)
  (tSeq (tIfS (tNot (tTest (tChain rLe rL (tOp (rIxT K) (tVar 2) (tC (.int 1))) (tOp (rIxT K) (tVar 0) (tC (.int 1))) (tOp (rIxT K) (tVar 3) (tC (.int 1)))))) (tRet (tC (.bl false))) tNext)
  (tSeq (tAsg (tOp rSu (tOp (rIxT K) (tVar 3) (tC (.int 1))) (tOp (rIxT K) (tVar 2) (tC (.int 1)))) (gName 4))
  (tRet (tOp rG (tOp rAd (tOp rMu (tOp (rIxT K) (tVar 2) (tC (.int 0))) (tVar 4)) (tOp rMu (tOp rSu (tOp (rIxT K) (tVar 3) (tC (.int 0))) (tOp (rIxT K) (tVar 2) (tC (.int 0)))) (tOp rSu (tOp (rIxT K) (tVar 0) (tC (.int 1))) (tOp (rIxT K) (tVar 2) (tC (.int 1)))))) (tOp rMu (tOp (rIxT K) (tVar 0) (tC (.int 0))) (tVar 4))))))))
theorem ok_is_east {P : Program} {w : World} {K : PySem.W.Frag} {mg : Str → Option Value} {base : Heap} {Z : Cst} (Y : FX K mg Z) {sp : Sp} (len : ∀ vs H Q E, sp vs H Q E → vs.length = 2)
    (run : ∀ vs H Q E, sp vs H Q E → t_is_east K Z { nx := fun _ H' => Q .non H', rt := Q } (L2.start N_is_east vs) H) : Has P w K mg base 1 "is_east" ["centre", "edge"] sp := by
  obtain ⟨f, fd, F, gm⟩ := Y.df 32 _ rfl
  have b : Binds K fd ["centre", "edge"] [] := F.bindsN fun _ _ _ _ _ _ us hl => match us, hl with | [_, _], _ => rfl
  have G : FnOk P w K mg base CX0 1 f fd ["centre", "edge"] sp := F.ok sc_is_east len fun cdv A outer s H vs Q E hr h => ⟨t_is_east K Z, PSs.nox (pss_cons (ps_asg (pv 1) (pg_tup rfl (pgs_cons (pg_name (i := 2) sc_is_east.nd rfl (Or.inl rfl)) (pgs_cons (pg_name (i := 3) sc_is_east.nd rfl (Or.inl rfl)) pgs_nil))))
    (pss_cons (ps_if (pt_cmpR op_gt (pe_ix ix_tup (pv 2) pe_int (fun _ _ => rfl)) (pe_ix ix_tup (pv 3) pe_int (fun _ _ => rfl)) rfl) (pss_one (ps_par (i := 2) (j := 3) rfl sc_is_east.nd rfl rfl (by decide) rfl rfl (pa_cons (pv 3) (pa_cons (pv 2) pa_nil)) rfl)) pss_nil)
    (pss_cons (ps_if (pt_not (pt_chain op_le op_lt (pe_ix ix_tup (pv 2) pe_int (fun _ _ => rfl)) (pe_ix ix_tup (pv 0) pe_int (fun _ _ => rfl)) (pe_ix ix_tup (pv 3) pe_int (fun _ _ => rfl)))) (pss_one (ps_ret pe_bl)) pss_nil)
    (pss_cons (ps_set (i := 4) sc_is_east.nd rfl (Or.inl rfl) (pe_op op_sub (pe_ix ix_tup (pv 3) pe_int (fun _ _ => rfl)) (pe_ix ix_tup (pv 2) pe_int (fun _ _ => rfl))))
    (pss_one (ps_ret (pe_cmpR op_gt (pe_op op_add (pe_op op_mul (pe_ix ix_tup (pv 2) pe_int (fun _ _ => rfl)) (pv 4)) (pe_op op_mul (pe_op op_sub (pe_ix ix_tup (pv 3) pe_int (fun _ _ => rfl)) (pe_ix ix_tup (pv 2) pe_int (fun _ _ => rfl))) (pe_op op_sub (pe_ix ix_tup (pv 0) pe_int (fun _ _ => rfl)) (pe_ix ix_tup (pv 2) pe_int (fun _ _ => rfl))))) (pe_op op_mul (pe_ix ix_tup (pv 0) pe_int (fun _ _ => rfl)) (pv 4)) rfl))))))), run vs H Q E h⟩
  exact ⟨f, fd, G, gm, F.kp, b, FunD.bindsA F fun _ _ _ _ _ _ us hl => match us, hl with | [_, _], _ => rfl⟩
/-! ### is_near -/
abbrev N_is_near : List Str := ["centre", "edge", "square", "first", "second", "across", "up", "dx", "dy", "length", "along", "aside"]
theorem sc_is_near : FnScope N_is_near ["centre", "edge", "square"] (defScope s_is_near) := ⟨rfl, rfl, rfl, by decide +kernel, rfl, by decide +kernel, by decide +kernel⟩
def t_is_near (K : PySem.W.Frag) (Z : Cst) : TS :=
  (tSeq (tAsg (tVar 1) (gTup K 2 (gCons (gName 3) (gCons (gName 4) gNil))))
  (tSeq (tAsg (tOp rSu (tOp (rIxT K) (tVar 4) (tC (.int 0))) (tOp (rIxT K) (tVar 3) (tC (.int 0)))) (gName 5))
  (tSeq (tAsg (tOp rSu (tOp (rIxT K) (tVar 4) (tC (.int 1))) (tOp (rIxT K) (tVar 3) (tC (.int 1)))) (gName 6))
  (tSeq (tAsg (tOp rSu (tOp (rIxT K) (tVar 0) (tC (.int 0))) (tOp (rIxT K) (tVar 3) (tC (.int 0)))) (gName 7))
  (tSeq (tAsg (tOp rSu (tOp (rIxT K) (tVar 0) (tC (.int 1))) (tOp (rIxT K) (tVar 3) (tC (.int 1)))) (gName 8))
  (tSeq (tAsg (tOp rAd (tOp rMu (tVar 5) (tVar 5)) (tOp rMu (tVar 6) (tVar 6))) (gName 9))
  (tSeq (tAsg (tOp rAd (tOp rMu (tVar 7) (tVar 5)) (tOp rMu (tVar 8) (tVar 6))) (gName 10))
  (tSeq (tIfS (tTest (tOp rLe (tVar 10) (tC (.int 0)))) (tRet (tOp rLe (tOp rAd (tOp rMu (tVar 7) (tVar 7)) (tOp rMu (tVar 8) (tVar 8))) (tVar 2))) tNext)
  (tSeq (tIfS (tTest (tOp rGE (tVar 10) (tVar 9))) (tRet (tOp rLe (tOp rAd (tOp rPw (tOp rSu (tVar 7) (tVar 5)) (tC (.int 2))) (tOp rPw (tOp rSu (tVar 8) (tVar 6)) (tC (.int 2)))) (tVar 2))) tNext)
  (tSeq (tAsg (tOp rSu (tOp rMu (tVar 7) (tVar 6)) (tOp rMu (tVar 8) (tVar 5))) (gName 11))
  (tRet (tOp rLe (tOp rMu (tVar 11) (tVar 11)) (tOp rMu (tVar 2) (tVar 9))))))))))))))
theorem ok_is_near {P : Program} {w : World} {K : PySem.W.Frag} {mg : Str → Option Value} {base : Heap} {Z : Cst} (Y : FX K mg Z) {sp : Sp} (len : ∀ vs H Q E, sp vs H Q E → vs.length = 3)
    (run : ∀ vs H Q E, sp vs H Q E → t_is_near K Z { nx := fun _ H' => Q .non H', rt := Q } (L2.start N_is_near vs) H) : Has P w K mg base 1 "is_near" ["centre", "edge", "square"] sp := by
  obtain ⟨f, fd, F, gm⟩ := Y.df 33 _ rfl
  have b : Binds K fd ["centre", "edge", "square"] [] := F.bindsN fun _ _ _ _ _ _ us hl => match us, hl with | [_, _, _], _ => rfl
  have G : FnOk P w K mg base CX0 1 f fd ["centre", "edge", "square"] sp := F.ok sc_is_near len fun cdv A outer s H vs Q E hr h => ⟨t_is_near K Z, PSs.nox (pss_cons (ps_asg (pv 1) (pg_tup rfl (pgs_cons (pg_name (i := 3) sc_is_near.nd rfl (Or.inl rfl)) (pgs_cons (pg_name (i := 4) sc_is_near.nd rfl (Or.inl rfl)) pgs_nil))))
    (pss_cons (ps_set (i := 5) sc_is_near.nd rfl (Or.inl rfl) (pe_op op_sub (pe_ix ix_tup (pv 4) pe_int (fun _ _ => rfl)) (pe_ix ix_tup (pv 3) pe_int (fun _ _ => rfl))))
    (pss_cons (ps_set (i := 6) sc_is_near.nd rfl (Or.inl rfl) (pe_op op_sub (pe_ix ix_tup (pv 4) pe_int (fun _ _ => rfl)) (pe_ix ix_tup (pv 3) pe_int (fun _ _ => rfl))))
    (pss_cons (ps_set (i := 7) sc_is_near.nd rfl (Or.inl rfl) (pe_op op_sub (pe_ix ix_tup (pv 0) pe_int (fun _ _ => rfl)) (pe_ix ix_tup (pv 3) pe_int (fun _ _ => rfl))))
    (pss_cons (ps_set (i := 8) sc_is_near.nd rfl (Or.inl rfl) (pe_op op_sub (pe_ix ix_tup (pv 0) pe_int (fun _ _ => rfl)) (pe_ix ix_tup (pv 3) pe_int (fun _ _ => rfl))))
    (pss_cons (ps_set (i := 9) sc_is_near.nd rfl (Or.inl rfl) (pe_op op_add (pe_op op_mul (pv 5) (pv 5)) (pe_op op_mul (pv 6) (pv 6))))
    (pss_cons (ps_set (i := 10) sc_is_near.nd rfl (Or.inl rfl) (pe_op op_add (pe_op op_mul (pv 7) (pv 5)) (pe_op op_mul (pv 8) (pv 6))))
    (pss_cons (ps_if (pt_cmpR op_le (pv 10) pe_int rfl) (pss_one (ps_ret (pe_cmpR op_le (pe_op op_add (pe_op op_mul (pv 7) (pv 7)) (pe_op op_mul (pv 8) (pv 8))) (pv 2) rfl))) pss_nil)
    (pss_cons (ps_if (pt_cmpR op_ge (pv 10) (pv 9) rfl) (pss_one (ps_ret (pe_cmpR op_le (pe_op op_add (pe_op op_pow (pe_op op_sub (pv 7) (pv 5)) pe_int) (pe_op op_pow (pe_op op_sub (pv 8) (pv 6)) pe_int)) (pv 2) rfl))) pss_nil)
    (pss_cons (ps_set (i := 11) sc_is_near.nd rfl (Or.inl rfl) (pe_op op_sub (pe_op op_mul (pv 7) (pv 6)) (pe_op op_mul (pv 8) (pv 5))))
    (pss_one (ps_ret (pe_cmpR op_le (pe_op op_mul (pv 11) (pv 11)) (pe_op op_mul (pv 2) (pv 9)) rfl))))))))))))), run vs H Q E h⟩
  exact ⟨f, fd, G, gm, F.kp, b, FunD.bindsA F fun _ _ _ _ _ _ us hl => match us, hl with | [_, _, _], _ => rfl⟩
/-! ### __init__ -/
abbrev N___init__ : List Str := ["self", "look", "shape", "scale", "unit"]
theorem sc___init__ : FnScope N___init__ ["self", "look", "shape", "scale"] (defScope s___init__) := ⟨rfl, rfl, rfl, by decide +kernel, rfl, by decide +kernel, by decide +kernel⟩
def t___init__ (K : PySem.W.Frag) (Z : Cst) (p_doubled : Sp) (p_edges_of : Sp) : TS :=
  (tSeq (sFld K (tVar 0) (tVar 1) "look")
  (tSeq (tAsg (tOp (rIxT K) (tC (.ref Z.aU)) (tVar 3)) (gName 4))
  (tSeq (sFld K (tVar 0) (tLst tNil) "edges")
  (tSeq (sFld K (tVar 0) (tTup (tCons (tC (.int 0)) (tCons (tC (.int 0)) tNil))) "point")
  (tSeq (sFld K (tVar 0) (tC (.int 0)) "square")
  (tIfS (tTest (tOp rEq (tOp (rIxT K) (tVar 1) (tC (.int 0))) (tC (.str "dot")))) (tSeq (sFld K (tVar 0) (tCall p_doubled [] E0 (tCons (tOp (rIxT K) (tVar 2) (tC (.int 1))) tNil)) "point")
  (sFld K (tVar 0) (tOp rPw (tOp rMu (tOp rMu (tC (.int 2)) (tVar 4)) (tOp (rIxT K) (tVar 1) (tC (.int 2)))) (tC (.int 2))) "square")) (tSeq (sFld K (tVar 0) (tCall p_edges_of [] E0 (tCons (tVar 2) tNil)) "edges")
  (tIfS (tTest (tOp rEq (tOp (rIxT K) (tVar 1) (tC (.int 0))) (tC (.str "stroke")))) (sFld K (tVar 0) (tOp rPw (tOp rMu (tVar 4) (tOp (rIxT K) (tVar 1) (tC (.int 2)))) (tC (.int 2))) "square") tNext))))))))
theorem ok___init__ {P : Program} {w : World} {K : PySem.W.Frag} {mg : Str → Option Value} {base : Heap} {Z : Cst} (Y : FX K mg Z) {p_doubled : Sp} (h_doubled : Has P w K mg base 1 "doubled" ["point"] p_doubled) {p_edges_of : Sp} (h_edges_of : Has P w K mg base 3 "edges_of" ["shape"] p_edges_of) {sp : Sp} (len : ∀ vs H Q E, sp vs H Q E → vs.length = 4)
    (run : ∀ vs H Q E, sp vs H Q E → t___init__ K Z p_doubled p_edges_of { nx := fun _ H' => Q .non H', rt := Q } (L2.start N___init__ vs) H) : HasMk P w K mg base Z.C 4 "Painter" ["self", "look", "shape", "scale"] sp := by
  obtain ⟨f, fd, M, F⟩ := Y.mkr
  have b : Binds K fd ["self", "look", "shape", "scale"] [] := F.bindsN fun _ _ _ _ _ _ us hl => match us, hl with | [_, _, _, _], _ => rfl
  have G : FnOk P w K mg base CX0 4 f fd ["self", "look", "shape", "scale"] sp := F.ok sc___init__ len fun cdv A outer s H vs Q E hr h => ⟨t___init__ K Z p_doubled p_edges_of, PSs.nox (pss_cons (ps_fld (pv 0) (pv 1) rfl)
    (pss_cons (ps_set (i := 4) sc___init__.nd rfl (Or.inl rfl) (pe_ix ix_tup (pe_gr Y.mgU rfl) (pv 3) (fun _ _ => rfl)))
    (pss_cons (ps_fld (pv 0) (pe_lst pa_nil) rfl)
    (pss_cons (ps_fld (pv 0) (pe_tup (pa_cons pe_int (pa_cons pe_int pa_nil))) rfl)
    (pss_cons (ps_fld (pv 0) pe_int rfl)
    (pss_one (ps_if (pt_cmpR op_eq (pe_ix ix_tup (pv 1) pe_int (fun _ _ => rfl)) pe_str rfl) (pss_cons (ps_fld (pv 0) (pe_has h_doubled hr (by decide) rfl (pa_cons (pe_ix ix_tup (pv 2) pe_int (fun _ _ => rfl)) pa_nil)) rfl)
    (pss_one (ps_fld (pv 0) (pe_op op_pow (pe_op op_mul (pe_op op_mul pe_int (pv 4)) (pe_ix ix_tup (pv 1) pe_int (fun _ _ => rfl))) pe_int) rfl))) (pss_cons (ps_fld (pv 0) (pe_has h_edges_of hr (by decide) rfl (pa_cons (pv 2) pa_nil)) rfl)
    (pss_one (ps_if (pt_cmpR op_eq (pe_ix ix_tup (pv 1) pe_int (fun _ _ => rfl)) pe_str rfl) (pss_one (ps_fld (pv 0) (pe_op op_pow (pe_op op_mul (pv 4) (pe_ix ix_tup (pv 1) pe_int (fun _ _ => rfl))) pe_int) rfl)) pss_nil)))))))))), run vs H Q E h⟩
  exact ⟨f, fd, M, G, Y.mgC, b⟩
/-! ### covers -/
abbrev N_covers : List Str := ["self", "centre", "dx", "dy", "edge"]
theorem sc_covers : FnScope N_covers ["self", "centre"] (defScope s_covers) := ⟨rfl, rfl, rfl, by decide +kernel, rfl, by decide +kernel, by decide +kernel⟩
def t_covers (K : PySem.W.Frag) (Z : Cst) (p_is_east : Sp) (p_is_near : Sp) : TS :=
  (tSeq (tIfS (tTest (tOp rEq (tOp (rIxT K) (tFld K (tVar 0) "look") (tC (.int 0))) (tC (.str "fill")))) (tRet (tOp rEq (tOp rMo (tCB (rLenA K) (tCons (tLc (iList K (tFld K (tVar 0) "edges")) (gName 4) (tB (tCall p_is_east [] E0 (tCons (tVar 1) (tCons (tVar 4) tNil)))) (tVar 4) [4]) tNil)) (tC (.int 2))) (tC (.int 1)))) tNext)
  (tSeq (tIfS (tTest (tOp rEq (tOp (rIxT K) (tFld K (tVar 0) "look") (tC (.int 0))) (tC (.str "stroke")))) (tRet (tCB (rAny K) (tCons (tLc (iList K (tFld K (tVar 0) "edges")) (gName 4) tYes (tCall p_is_near [] E0 (tCons (tVar 1) (tCons (tVar 4) (tCons (tFld K (tVar 0) "square") tNil)))) [4]) tNil))) tNext)
  (tSeq (tAsg (tOp rSu (tOp (rIxT K) (tVar 1) (tC (.int 0))) (tOp (rIxT K) (tFld K (tVar 0) "point") (tC (.int 0)))) (gName 2))
  (tSeq (tAsg (tOp rSu (tOp (rIxT K) (tVar 1) (tC (.int 1))) (tOp (rIxT K) (tFld K (tVar 0) "point") (tC (.int 1)))) (gName 3))
  (tRet (tOp rLe (tOp rAd (tOp rMu (tVar 2) (tVar 2)) (tOp rMu (tVar 3) (tVar 3))) (tFld K (tVar 0) "square")))))))
theorem ok_covers {P : Program} {w : World} {K : PySem.W.Frag} {mg : Str → Option Value} {base : Heap} {Z : Cst} (Y : FX K mg Z) {p_is_east : Sp} (h_is_east : Has P w K mg base 1 "is_east" ["centre", "edge"] p_is_east) {p_is_near : Sp} (h_is_near : Has P w K mg base 1 "is_near" ["centre", "edge", "square"] p_is_near) {sp : Sp} (len : ∀ vs H Q E, sp vs H Q E → vs.length = 2)
    (run : ∀ vs H Q E, sp vs H Q E → t_covers K Z p_is_east p_is_near { nx := fun _ H' => Q .non H', rt := Q } (L2.start N_covers vs) H) : HasMt P w K mg base Z.C 2 "covers" ["self", "centre"] sp := by
  obtain ⟨f, fd, M, F⟩ := Y.mt
  have b : Binds K fd ["self", "centre"] [] := F.bindsN fun _ _ _ _ _ _ us hl => match us, hl with | [_, _], _ => rfl
  have G : FnOk P w K mg base CX0 2 f fd ["self", "centre"] sp := F.ok sc_covers len fun cdv A outer s H vs Q E hr h => ⟨t_covers K Z p_is_east p_is_near, PSs.nox (pss_cons (ps_if (pt_cmpR op_eq (pe_ix ix_tup (pe_fld (pv 0) rfl) pe_int (fun _ _ => rfl)) pe_str rfl) (pss_one (ps_ret (pe_cmpR op_eq (pe_op op_mod (pe_callB call_lenA rfl (Y.fr 6 _ rfl) boot_len (pa_cons (pe_lc (own := [("edge", 4)]) rfl sc_covers.nd (pi_list (pe_fld (pv 0) rfl)) (blkOk_by (N := N_covers) (sc := defScope s_covers) (by decide +kernel)) (fun _ _ _ _ _ => (pg_name (i := 4) sc_covers.nd rfl (Or.inl rfl))) (fun _ _ _ _ _ => pts_one (pt_val (pe_has h_is_east hr (by decide) rfl (pa_cons (pv 1) (pa_cons (pv 4) pa_nil))))) (fun _ _ _ _ _ => (pv 4))) pa_nil)) pe_int) pe_int rfl))) pss_nil)
    (pss_cons (ps_if (pt_cmpR op_eq (pe_ix ix_tup (pe_fld (pv 0) rfl) pe_int (fun _ _ => rfl)) pe_str rfl) (pss_one (ps_ret (pe_callB (cr_any rfl) rfl (Y.fr 8 _ rfl) boot_any (pa_cons (pe_lc (own := [("edge", 4)]) rfl sc_covers.nd (pi_list (pe_fld (pv 0) rfl)) (blkOk_by (N := N_covers) (sc := defScope s_covers) (by decide +kernel)) (fun _ _ _ _ _ => (pg_name (i := 4) sc_covers.nd rfl (Or.inl rfl))) (fun _ _ _ _ _ => pts_nil) (fun _ _ _ _ _ => (pe_has h_is_near hr (by decide) rfl (pa_cons (pv 1) (pa_cons (pv 4) (pa_cons (pe_fld (pv 0) rfl) pa_nil)))))) pa_nil)))) pss_nil)
    (pss_cons (ps_set (i := 2) sc_covers.nd rfl (Or.inl rfl) (pe_op op_sub (pe_ix ix_tup (pv 1) pe_int (fun _ _ => rfl)) (pe_ix ix_tup (pe_fld (pv 0) rfl) pe_int (fun _ _ => rfl))))
    (pss_cons (ps_set (i := 3) sc_covers.nd rfl (Or.inl rfl) (pe_op op_sub (pe_ix ix_tup (pv 1) pe_int (fun _ _ => rfl)) (pe_ix ix_tup (pe_fld (pv 0) rfl) pe_int (fun _ _ => rfl))))
    (pss_one (ps_ret (pe_cmpR op_le (pe_op op_add (pe_op op_mul (pv 2) (pv 2)) (pe_op op_mul (pv 3) (pv 3))) (pe_fld (pv 0) rfl) rfl))))))), run vs H Q E h⟩
  exact ⟨f, fd, Y.cls, M, G, b⟩
/-! ### painters_of -/
abbrev N_painters_of : List Str := ["map_things", "style", "scale", "shapes", "found", "_", "at", "name", "thing"]
theorem sc_painters_of : FnScope N_painters_of ["map_things", "style", "scale"] (defScope s_painters_of) := ⟨rfl, rfl, rfl, by decide +kernel, rfl, by decide +kernel, by decide +kernel⟩
def t_painters_of (K : PySem.W.Frag) (Z : Cst) (p_marks_of : Sp) (p___init__ : Sp) : TS :=
  (tSeq (tAsg (tDc (iTup K (tVar 0)) (gName 8) tYes (tOp (rIxT K) (tVar 8) (tC (.int 0))) (tOp (rIxT K) (tVar 8) (tC (.int 2))) [8]) (gName 3))
  (tSeq (tAsg (tLst tNil) (gName 4))
  (tSeq (tFor (iList K (tCall p_marks_of [] E0 (tCons (tVar 0) (tCons (tVar 1) (tCons (tVar 2) tNil))))) (gTup K 3 (gCons (gName 5) (gCons (gName 6) (gCons (gName 7) gNil)))) (tDrop (tBM K "list" rAppend (tVar 4) (tCons (tTup (tCons (tMake Z.C p___init__ [] E0 (tCons (tOp (rIxT K) (tOp (rIxT K) (tVar 1) (tVar 6)) (tC (.int 4))) (tCons (tDGet (tVar 3) (tVar 7)) (tCons (tVar 2) tNil)))) (tCons (tVar 7) tNil))) tNil))))
  (tRet (tRevL K (tVar 4))))))
theorem ok_painters_of {P : Program} {w : World} {K : PySem.W.Frag} {mg : Str → Option Value} {base : Heap} {Z : Cst} (Y : FX K mg Z) {p_marks_of : Sp} (h_marks_of : Has P w K mg base 3 "marks_of" ["map_things", "style", "scale"] p_marks_of) {p___init__ : Sp} (h___init__ : HasMk P w K mg base Z.C 4 "Painter" ["self", "look", "shape", "scale"] p___init__) {sp : Sp} (len : ∀ vs H Q E, sp vs H Q E → vs.length = 3)
    (run : ∀ vs H Q E, sp vs H Q E → t_painters_of K Z p_marks_of p___init__ { nx := fun _ H' => Q .non H', rt := Q } (L2.start N_painters_of vs) H) : Has P w K mg base 6 "painters_of" ["map_things", "style", "scale"] sp := by
  obtain ⟨f, fd, F, gm⟩ := Y.df 34 _ rfl
  have b : Binds K fd ["map_things", "style", "scale"] [] := F.bindsN fun _ _ _ _ _ _ us hl => match us, hl with | [_, _, _], _ => rfl
  have G : FnOk P w K mg base CX0 6 f fd ["map_things", "style", "scale"] sp := F.ok sc_painters_of len fun cdv A outer s H vs Q E hr h => ⟨t_painters_of K Z p_marks_of p___init__, PSs.nox (pss_cons (TX.ps_setDc (own := [("thing", 8)]) (i := 3) rfl sc_painters_of.nd rfl rfl (TX.sw_trueD rfl rfl rfl (by decide +kernel)) (pi_tup (pv 0)) (blkOk_by (N := N_painters_of) (sc := defScope s_painters_of) (by decide +kernel)) (fun _ _ _ _ _ => (pg_name (i := 8) sc_painters_of.nd rfl (Or.inl rfl))) (fun _ _ _ _ _ => pts_nil) (fun _ _ _ _ _ => (pe_ix ix_tup (pv 8) pe_int (fun _ _ => rfl))) (fun _ _ _ _ _ => (pe_ix ix_tup (pv 8) pe_int (fun _ _ => rfl))))
    (pss_cons (ps_set (i := 4) sc_painters_of.nd rfl (Or.inl rfl) (pe_lst pa_nil))
    (pss_cons (ps_for PassesOwn.never rfl (pi_list (pe_has h_marks_of hr (by decide) rfl (pa_cons (pv 0) (pa_cons (pv 1) (pa_cons (pv 2) pa_nil))))) (pg_tup rfl (pgs_cons (pg_name (i := 5) sc_painters_of.nd rfl (Or.inl rfl)) (pgs_cons (pg_name (i := 6) sc_painters_of.nd rfl (Or.inl rfl)) (pgs_cons (pg_name (i := 7) sc_painters_of.nd rfl (Or.inl rfl)) pgs_nil)))) (pss_one (ps_expr (pe_bm PySem.F.plainAttrs_list PySem.F.slot_list_append PySem.F.type_list_append mt_append (pv 4) (pa_cons (pe_tup (pa_cons (pe_hasMk h___init__ hr (by decide) rfl (pa_cons (pe_ix ix_tup (pe_ix ix_tup (pv 1) (pv 6) (fun _ _ => rfl)) pe_int (fun _ _ => rfl)) (pa_cons (pe_dget (hu_of hr) (pv 3) (pv 7) (fun _ _ => rfl)) (pa_cons (pv 2) pa_nil)))) (pa_cons (pv 7) pa_nil))) pa_nil)))))
    (pss_one (ps_ret (pe_revL (pv 4))))))), run vs H Q E h⟩
  exact ⟨f, fd, G, gm, F.kp, b, FunD.bindsA F fun _ _ _ _ _ _ us hl => match us, hl with | [_, _, _], _ => rfl⟩
/-! ### highest -/
abbrev N_highest : List Str := ["painters", "centre", "painter", "name"]
theorem sc_highest : FnScope N_highest ["painters", "centre"] (defScope s_highest) := ⟨rfl, rfl, rfl, by decide +kernel, rfl, by decide +kernel, by decide +kernel⟩
def t_highest (K : PySem.W.Frag) (Z : Cst) (p_covers : Sp) : TS :=
  (tSeq (tFor (iList K (tVar 0)) (gTup K 2 (gCons (gName 2) (gCons (gName 3) gNil))) (tIfS (tB (tMeth Z.C "covers" p_covers [] E0 (tVar 2) (tCons (tVar 1) tNil))) (tRet (tTup (tCons (tOp (rIxT K) (tFld K (tVar 2) "look") (tC (.int 1))) (tCons (tVar 3) tNil)))) tNext))
  (tRet (tTup (tCons (tC (.int 0)) (tCons (tC .non) tNil)))))
theorem ok_highest {P : Program} {w : World} {K : PySem.W.Frag} {mg : Str → Option Value} {base : Heap} {Z : Cst} (Y : FX K mg Z) {p_covers : Sp} (h_covers : HasMt P w K mg base Z.C 2 "covers" ["self", "centre"] p_covers) {sp : Sp} (len : ∀ vs H Q E, sp vs H Q E → vs.length = 2)
    (run : ∀ vs H Q E, sp vs H Q E → t_highest K Z p_covers { nx := fun _ H' => Q .non H', rt := Q } (L2.start N_highest vs) H) : Has P w K mg base 3 "highest" ["painters", "centre"] sp := by
  obtain ⟨f, fd, F, gm⟩ := Y.df 35 _ rfl
  have b : Binds K fd ["painters", "centre"] [] := F.bindsN fun _ _ _ _ _ _ us hl => match us, hl with | [_, _], _ => rfl
  have G : FnOk P w K mg base CX0 3 f fd ["painters", "centre"] sp := F.ok sc_highest len fun cdv A outer s H vs Q E hr h => ⟨t_highest K Z p_covers, PSs.nox (pss_cons (ps_for PassesOwn.never rfl (pi_list (pv 0)) (pg_tup rfl (pgs_cons (pg_name (i := 2) sc_highest.nd rfl (Or.inl rfl)) (pgs_cons (pg_name (i := 3) sc_highest.nd rfl (Or.inl rfl)) pgs_nil))) (pss_one (ps_if (pt_val (pe_hasMt (pv 2) h_covers hr (by decide) (pa_cons (pv 1) pa_nil))) (pss_one (ps_ret (pe_tup (pa_cons (pe_ix ix_tup (pe_fld (pv 2) rfl) pe_int (fun _ _ => rfl)) (pa_cons (pv 3) pa_nil))))) pss_nil)))
    (pss_one (ps_ret (pe_tup (pa_cons pe_int (pa_cons pe_non pa_nil)))))), run vs H Q E h⟩
  exact ⟨f, fd, G, gm, F.kp, b, FunD.bindsA F fun _ _ _ _ _ _ us hl => match us, hl with | [_, _], _ => rfl⟩
/-! ### is_window -/
abbrev N_is_window : List Str := ["window"]
theorem sc_is_window : FnScope N_is_window ["window"] (defScope s_is_window) := ⟨rfl, rfl, rfl, by decide +kernel, rfl, by decide +kernel, by decide +kernel⟩
def t_is_window (K : PySem.W.Frag) (Z : Cst) (p_is_pixel : Sp) (p_is_between : Sp) : TS :=
  (tSeq (tIfS (tOr (tNot (tB (tCB (rIsi K) (tCons (tVar 0) (tCons (tC (.ty "tuple")) tNil))))) (tOr (tTest (tOp rNe (tCB (rLenA K) (tCons (tVar 0) tNil)) (tC (.int 4)))) (tOr (tNot (tB (tCall p_is_pixel [] E0 (tCons (tOp (rIxT K) (tVar 0) (tC (.int 0))) tNil)))) (tNot (tB (tCall p_is_pixel [] E0 (tCons (tOp (rIxT K) (tVar 0) (tC (.int 1))) tNil))))))) (tRet (tC (.bl false))) tNext)
  (tSeq (tIfS (tOr (tNot (tB (tCall p_is_between [] E0 (tCons (tOp (rIxT K) (tVar 0) (tC (.int 2))) (tCons (tC (.int 1)) (tCons (tC (.int 48)) tNil)))))) (tNot (tB (tCall p_is_between [] E0 (tCons (tOp (rIxT K) (tVar 0) (tC (.int 3))) (tCons (tC (.int 1)) (tCons (tC (.int 48)) tNil))))))) (tRet (tC (.bl false))) tNext)
  (tRet (tAndV (tCall p_is_pixel [] E0 (tCons (tOp rSu (tOp rAd (tOp (rIxT K) (tVar 0) (tC (.int 0))) (tOp (rIxT K) (tVar 0) (tC (.int 2)))) (tC (.int 1))) tNil)) (tCall p_is_pixel [] E0 (tCons (tOp rSu (tOp rAd (tOp (rIxT K) (tVar 0) (tC (.int 1))) (tOp (rIxT K) (tVar 0) (tC (.int 3)))) (tC (.int 1))) tNil))))))
theorem ok_is_window {P : Program} {w : World} {K : PySem.W.Frag} {mg : Str → Option Value} {base : Heap} {Z : Cst} (Y : FX K mg Z) {p_is_pixel : Sp} (h_is_pixel : Has P w K mg base 2 "is_pixel" ["value"] p_is_pixel) {p_is_between : Sp} (h_is_between : Has P w K mg base 1 "is_between" ["value", "low", "high"] p_is_between) {sp : Sp} (len : ∀ vs H Q E, sp vs H Q E → vs.length = 1)
    (run : ∀ vs H Q E, sp vs H Q E → t_is_window K Z p_is_pixel p_is_between { nx := fun _ H' => Q .non H', rt := Q } (L2.start N_is_window vs) H) : Has P w K mg base 3 "is_window" ["window"] sp := by
  obtain ⟨f, fd, F, gm⟩ := Y.df 36 _ rfl
  have b : Binds K fd ["window"] [] := F.bindsN fun _ _ _ _ _ _ us hl => match us, hl with | [_], _ => rfl
  have G : FnOk P w K mg base CX0 3 f fd ["window"] sp := F.ok sc_is_window len fun cdv A outer s H vs Q E hr h => ⟨t_is_window K Z p_is_pixel p_is_between, PSs.nox (pss_cons (ps_if (PW.pt (pw_or (pt_not (pt_val (pe_callB call_isi rfl (Y.fr 0 _ rfl) boot_isinstance (pa_cons (pv 0) (pa_cons (pe_ty (Y.fr 3 _ rfl) rfl boot_tuple) pa_nil))))) (pw_or (pt_cmpR op_ne (pe_callB call_lenA rfl (Y.fr 6 _ rfl) boot_len (pa_cons (pv 0) pa_nil)) pe_int rfl) (pw_or (pt_not (pt_val (pe_has h_is_pixel hr (by decide) rfl (pa_cons (pe_ix ix_tup (pv 0) pe_int (fun _ _ => rfl)) pa_nil)))) (pw_or1 (pt_not (pt_val (pe_has h_is_pixel hr (by decide) rfl (pa_cons (pe_ix ix_tup (pv 0) pe_int (fun _ _ => rfl)) pa_nil))))))))) (pss_one (ps_ret pe_bl)) pss_nil)
    (pss_cons (ps_if (PW.pt (pw_or (pt_not (pt_val (pe_has h_is_between hr (by decide) rfl (pa_cons (pe_ix ix_tup (pv 0) pe_int (fun _ _ => rfl)) (pa_cons pe_int (pa_cons (pe_gi (Y.gi 11 _ rfl) rfl) pa_nil)))))) (pw_or1 (pt_not (pt_val (pe_has h_is_between hr (by decide) rfl (pa_cons (pe_ix ix_tup (pv 0) pe_int (fun _ _ => rfl)) (pa_cons pe_int (pa_cons (pe_gi (Y.gi 11 _ rfl) rfl) pa_nil))))))))) (pss_one (ps_ret pe_bl)) pss_nil)
    (pss_one (ps_ret (pe_and (pe_has h_is_pixel hr (by decide) rfl (pa_cons (pe_op op_sub (pe_op op_add (pe_ix ix_tup (pv 0) pe_int (fun _ _ => rfl)) (pe_ix ix_tup (pv 0) pe_int (fun _ _ => rfl))) pe_int) pa_nil)) (pe_one (pe_has h_is_pixel hr (by decide) rfl (pa_cons (pe_op op_sub (pe_op op_add (pe_ix ix_tup (pv 0) pe_int (fun _ _ => rfl)) (pe_ix ix_tup (pv 0) pe_int (fun _ _ => rfl))) pe_int) pa_nil)))))))), run vs H Q E h⟩
  exact ⟨f, fd, G, gm, F.kp, b, FunD.bindsA F fun _ _ _ _ _ _ us hl => match us, hl with | [_], _ => rfl⟩
/-! ### painted -/
abbrev N_painted : List Str := ["map_things", "style", "scale", "window", "painters", "left", "low", "width", "height", "rows", "py", "px"]
theorem sc_painted : FnScope N_painted ["map_things", "style", "scale", "window"] (defScope s_painted) := ⟨rfl, rfl, rfl, by decide +kernel, rfl, by decide +kernel, by decide +kernel⟩
def t_painted (K : PySem.W.Frag) (Z : Cst) (p_painters_of : Sp) (p_centre_of : Sp) (p_highest : Sp) : TS :=
  (tSeq (tAsg (tCall p_painters_of [] E0 (tCons (tVar 0) (tCons (tVar 1) (tCons (tVar 2) tNil)))) (gName 4))
  (tSeq (tAsg (tVar 3) (gTup K 4 (gCons (gName 5) (gCons (gName 6) (gCons (gName 7) (gCons (gName 8) gNil))))))
  (tSeq (tAsg (tLst tNil) (gName 9))
  (tSeq (tFor (iRng3 (tCons (tOp rSu (tOp rAd (tVar 6) (tVar 8)) (tC (.int 1))) (tCons (tOp rSu (tVar 6) (tC (.int 1))) (tCons (tUn (rU fun i => .int (-i)) (tC (.int 1))) tNil)))) (gName 10) (tDrop (tBM K "list" rAppend (tVar 9) (tCons (tCB (rTupOf K) (tCons (tLc (iRng2 (tCons (tVar 5) (tCons (tOp rAd (tVar 5) (tVar 7)) tNil))) (gName 11) tYes (tOp (rIxT K) (tCall p_highest [] E0 (tCons (tVar 4) (tCons (tCall p_centre_of [] E0 (tCons (tVar 2) (tCons (tVar 11) (tCons (tVar 10) tNil)))) tNil))) (tC (.int 0))) [11]) tNil)) tNil))))
  (tRet (tCB (rTupOf K) (tCons (tVar 9) tNil)))))))
theorem ok_painted {P : Program} {w : World} {K : PySem.W.Frag} {mg : Str → Option Value} {base : Heap} {Z : Cst} (Y : FX K mg Z) {p_painters_of : Sp} (h_painters_of : Has P w K mg base 6 "painters_of" ["map_things", "style", "scale"] p_painters_of) {p_centre_of : Sp} (h_centre_of : Has P w K mg base 1 "centre_of" ["scale", "px", "py"] p_centre_of) {p_highest : Sp} (h_highest : Has P w K mg base 3 "highest" ["painters", "centre"] p_highest) {sp : Sp} (len : ∀ vs H Q E, sp vs H Q E → vs.length = 4)
    (run : ∀ vs H Q E, sp vs H Q E → t_painted K Z p_painters_of p_centre_of p_highest { nx := fun _ H' => Q .non H', rt := Q } (L2.start N_painted vs) H) : Has P w K mg base 7 "painted" ["map_things", "style", "scale", "window"] sp := by
  obtain ⟨f, fd, F, gm⟩ := Y.df 37 _ rfl
  have b : Binds K fd ["map_things", "style", "scale", "window"] [] := F.bindsN fun _ _ _ _ _ _ us hl => match us, hl with | [_, _, _, _], _ => rfl
  have G : FnOk P w K mg base CX0 7 f fd ["map_things", "style", "scale", "window"] sp := F.ok sc_painted len fun cdv A outer s H vs Q E hr h => ⟨t_painted K Z p_painters_of p_centre_of p_highest, PSs.nox (pss_cons (ps_set (i := 4) sc_painted.nd rfl (Or.inr rfl) (pe_has h_painters_of hr (by decide) rfl (pa_cons (pv 0) (pa_cons (pv 1) (pa_cons (pv 2) pa_nil)))))
    (pss_cons (ps_asg (pv 3) (pg_tup rfl (pgs_cons (pg_name (i := 5) sc_painted.nd rfl (Or.inl rfl)) (pgs_cons (pg_name (i := 6) sc_painted.nd rfl (Or.inl rfl)) (pgs_cons (pg_name (i := 7) sc_painted.nd rfl (Or.inl rfl)) (pgs_cons (pg_name (i := 8) sc_painted.nd rfl (Or.inl rfl)) pgs_nil))))))
    (pss_cons (ps_set (i := 9) sc_painted.nd rfl (Or.inl rfl) (pe_lst pa_nil))
    (pss_cons (ps_for PassesOwn.never rfl (pi_range3 rfl (Y.fr 11 _ rfl) (pa_cons (pe_op op_sub (pe_op op_add (pv 6) (pv 8)) pe_int) (pa_cons (pe_op op_sub (pv 6) pe_int) (pa_cons (pe_un un_neg pe_int) pa_nil)))) (pg_name (i := 10) sc_painted.nd rfl (Or.inr rfl)) (pss_one (ps_expr (pe_bm PySem.F.plainAttrs_list PySem.F.slot_list_append PySem.F.type_list_append mt_append (pv 9) (pa_cons (pe_callTy call_tupOf rfl (Y.fr 3 _ rfl) boot_tuple (pa_cons (pe_lc (own := [("px", 11)]) rfl sc_painted.nd (pi_range2 rfl (Y.fr 11 _ rfl) (pa_cons (pv 5) (pa_cons (pe_op op_add (pv 5) (pv 7)) pa_nil))) (blkOk_by (N := N_painted) (sc := defScope s_painted) (by decide +kernel)) (fun _ _ _ _ _ => (pg_name (i := 11) sc_painted.nd rfl (Or.inl rfl))) (fun _ _ _ _ _ => pts_nil) (fun _ _ _ _ _ => (pe_ix ix_tup (pe_has h_highest hr (by decide) rfl (pa_cons (pv 4) (pa_cons (pe_has h_centre_of hr (by decide) rfl (pa_cons (pv 2) (pa_cons (pv 11) (pa_cons (pv 10) pa_nil)))) pa_nil))) pe_int (fun _ _ => rfl)))) pa_nil)) pa_nil)))))
    (pss_one (ps_ret (pe_callTy call_tupOf rfl (Y.fr 3 _ rfl) boot_tuple (pa_cons (pv 9) pa_nil)))))))), run vs H Q E h⟩
  exact ⟨f, fd, G, gm, F.kp, b, FunD.bindsA F fun _ _ _ _ _ _ us hl => match us, hl with | [_, _, _, _], _ => rfl⟩
/-! ### picture -/
abbrev N_picture : List Str := ["map_things", "style", "scale", "window"]
theorem sc_picture : FnScope N_picture ["map_things", "style", "scale", "window"] (defScope s_picture) := ⟨rfl, rfl, rfl, by decide +kernel, rfl, by decide +kernel, by decide +kernel⟩
def t_picture (K : PySem.W.Frag) (Z : Cst) (p_check_map : Sp) (p_check_style : Sp) (p_check_scale : Sp) (p_is_window : Sp) (p_painted : Sp) : TS :=
  (tSeq (tDrop (tCall p_check_map [] E0 (tCons (tVar 0) tNil)))
  (tSeq (tDrop (tCall p_check_style [] E0 (tCons (tVar 1) tNil)))
  (tSeq (tDrop (tCall p_check_scale [] E0 (tCons (tVar 2) tNil)))
  (tSeq (tIfS (tNot (tB (tCall p_is_window [] E0 (tCons (tVar 3) tNil)))) tNever tNext)
  (tRet (tCall p_painted [] E0 (tCons (tVar 0) (tCons (tVar 1) (tCons (tVar 2) (tCons (tVar 3) tNil))))))))))
theorem ok_picture {P : Program} {w : World} {K : PySem.W.Frag} {mg : Str → Option Value} {base : Heap} {Z : Cst} (Y : FX K mg Z) {p_check_map : Sp} (h_check_map : Has P w K mg base 8 "check_map" ["map_things"] p_check_map) {p_check_style : Sp} (h_check_style : Has P w K mg base 5 "check_style" ["style"] p_check_style) {p_check_scale : Sp} (h_check_scale : Has P w K mg base 3 "check_scale" ["scale"] p_check_scale) {p_is_window : Sp} (h_is_window : Has P w K mg base 3 "is_window" ["window"] p_is_window) {p_painted : Sp} (h_painted : Has P w K mg base 7 "painted" ["map_things", "style", "scale", "window"] p_painted) {sp : Sp} (len : ∀ vs H Q E, sp vs H Q E → vs.length = 4)
    (run : ∀ vs H Q E, sp vs H Q E → t_picture K Z p_check_map p_check_style p_check_scale p_is_window p_painted { nx := fun _ H' => Q .non H', rt := Q } (L2.start N_picture vs) H) : Has P w K mg base 9 "picture" ["map_things", "style", "scale", "window"] sp := by
  obtain ⟨f, fd, F, gm⟩ := Y.df 38 _ rfl
  have b : Binds K fd ["map_things", "style", "scale", "window"] [] := F.bindsN fun _ _ _ _ _ _ us hl => match us, hl with | [_, _, _, _], _ => rfl
  have G : FnOk P w K mg base CX0 9 f fd ["map_things", "style", "scale", "window"] sp := F.ok sc_picture len fun cdv A outer s H vs Q E hr h => ⟨t_picture K Z p_check_map p_check_style p_check_scale p_is_window p_painted, PSs.nox (pss_cons (ps_expr (pe_has h_check_map hr (by decide) rfl (pa_cons (pv 0) pa_nil)))
    (pss_cons (ps_expr (pe_has h_check_style hr (by decide) rfl (pa_cons (pv 1) pa_nil)))
    (pss_cons (ps_expr (pe_has h_check_scale hr (by decide) rfl (pa_cons (pv 2) pa_nil)))
    (pss_cons (ps_if (pt_not (pt_val (pe_has h_is_window hr (by decide) rfl (pa_cons (pv 3) pa_nil)))) (pss_one ps_never) pss_nil)
    (pss_one (ps_ret (pe_has h_painted hr (by decide) rfl (pa_cons (pv 0) (pa_cons (pv 1) (pa_cons (pv 2) (pa_cons (pv 3) pa_nil))))))))))), run vs H Q E h⟩
  exact ⟨f, fd, G, gm, F.kp, b, FunD.bindsA F fun _ _ _ _ _ _ us hl => match us, hl with | [_, _, _, _], _ => rfl⟩
/-! ### is_tile -/
abbrev N_is_tile : List Str := ["value", "part"]
theorem sc_is_tile : FnScope N_is_tile ["value"] (defScope s_is_tile) := ⟨rfl, rfl, rfl, by decide +kernel, rfl, by decide +kernel, by decide +kernel⟩
def t_is_tile (K : PySem.W.Frag) (Z : Cst) (p_is_scale : Sp) (p_is_between : Sp) : TS :=
  (tSeq (tIfS (tOr (tNot (tB (tCB (rIsi K) (tCons (tVar 0) (tCons (tC (.ty "tuple")) tNil))))) (tOr (tTest (tOp rNe (tCB (rLenA K) (tCons (tVar 0) tNil)) (tC (.int 3)))) (tNot (tB (tCall p_is_scale [] E0 (tCons (tOp (rIxT K) (tVar 0) (tC (.int 0))) tNil)))))) (tRet (tC (.bl false))) tNext)
  (tRet (tCB (rAll K) (tCons (tLc (iTup K (tSl (rSlA K) (tVar 0) (tPart (tC (.int 1))) tNoPart)) (gName 1) tYes (tCall p_is_between [] E0 (tCons (tVar 1) (tCons (tC (.int (-128))) (tCons (tC (.int 127)) tNil)))) [1]) tNil))))
theorem ok_is_tile {P : Program} {w : World} {K : PySem.W.Frag} {mg : Str → Option Value} {base : Heap} {Z : Cst} (Y : FX K mg Z) {p_is_scale : Sp} (h_is_scale : Has P w K mg base 2 "is_scale" ["value"] p_is_scale) {p_is_between : Sp} (h_is_between : Has P w K mg base 1 "is_between" ["value", "low", "high"] p_is_between) {sp : Sp} (len : ∀ vs H Q E, sp vs H Q E → vs.length = 1)
    (run : ∀ vs H Q E, sp vs H Q E → t_is_tile K Z p_is_scale p_is_between { nx := fun _ H' => Q .non H', rt := Q } (L2.start N_is_tile vs) H) : Has P w K mg base 3 "is_tile" ["value"] sp := by
  obtain ⟨f, fd, F, gm⟩ := Y.df 39 _ rfl
  have b : Binds K fd ["value"] [] := F.bindsN fun _ _ _ _ _ _ us hl => match us, hl with | [_], _ => rfl
  have G : FnOk P w K mg base CX0 3 f fd ["value"] sp := F.ok sc_is_tile len fun cdv A outer s H vs Q E hr h => ⟨t_is_tile K Z p_is_scale p_is_between, PSs.nox (pss_cons (ps_if (PW.pt (pw_or (pt_not (pt_val (pe_callB call_isi rfl (Y.fr 0 _ rfl) boot_isinstance (pa_cons (pv 0) (pa_cons (pe_ty (Y.fr 3 _ rfl) rfl boot_tuple) pa_nil))))) (pw_or (pt_cmpR op_ne (pe_callB call_lenA rfl (Y.fr 6 _ rfl) boot_len (pa_cons (pv 0) pa_nil)) pe_int rfl) (pw_or1 (pt_not (pt_val (pe_has h_is_scale hr (by decide) rfl (pa_cons (pe_ix ix_tup (pv 0) pe_int (fun _ _ => rfl)) pa_nil)))))))) (pss_one (ps_ret pe_bl)) pss_nil)
    (pss_one (ps_ret (pe_callB (cr_all rfl) rfl (Y.fr 7 _ rfl) boot_all (pa_cons (pe_lc (own := [("part", 1)]) rfl sc_is_tile.nd (pi_tup (pe_slice sl_tupA (pv 0) (po_some pe_int) po_none)) (blkOk_by (N := N_is_tile) (sc := defScope s_is_tile) (by decide +kernel)) (fun _ _ _ _ _ => (pg_name (i := 1) sc_is_tile.nd rfl (Or.inl rfl))) (fun _ _ _ _ _ => pts_nil) (fun _ _ _ _ _ => (pe_has h_is_between hr (by decide) rfl (pa_cons (pv 1) (pa_cons (pe_gi (Y.gi 13 _ rfl) rfl) (pa_cons (pe_gi (Y.gi 14 _ rfl) rfl) pa_nil)))))) pa_nil))))), run vs H Q E h⟩
  exact ⟨f, fd, G, gm, F.kp, b, FunD.bindsA F fun _ _ _ _ _ _ us hl => match us, hl with | [_], _ => rfl⟩
/-! ### is_sheet -/
abbrev N_is_sheet : List Str := ["value", "row", "pixel"]
theorem sc_is_sheet : FnScope N_is_sheet ["value"] (defScope s_is_sheet) := ⟨rfl, rfl, rfl, by decide +kernel, rfl, by decide +kernel, by decide +kernel⟩
def t_is_sheet (K : PySem.W.Frag) (Z : Cst) (p_is_between : Sp) : TS :=
  (tSeq (tIfS (tOr (tNot (tB (tCB (rIsi K) (tCons (tVar 0) (tCons (tC (.ty "tuple")) tNil))))) (tTest (tOp rNe (tCB (rLenA K) (tCons (tVar 0) tNil)) (tC (.int 16))))) (tRet (tC (.bl false))) tNext)
  (tSeq (tFor (iTup K (tVar 0)) (gName 1) (tSeq (tIfS (tOr (tNot (tB (tCB (rIsi K) (tCons (tVar 1) (tCons (tC (.ty "tuple")) tNil))))) (tTest (tOp rNe (tCB (rLenA K) (tCons (tVar 1) tNil)) (tC (.int 16))))) (tRet (tC (.bl false))) tNext)
  (tIfS (tNot (tB (tCB (rAll K) (tCons (tLc (iTup K (tVar 1)) (gName 2) tYes (tCall p_is_between [] E0 (tCons (tVar 2) (tCons (tC (.int 0)) (tCons (tC (.int 63)) tNil)))) [2]) tNil)))) (tRet (tC (.bl false))) tNext)))
  (tRet (tC (.bl true)))))
theorem ok_is_sheet {P : Program} {w : World} {K : PySem.W.Frag} {mg : Str → Option Value} {base : Heap} {Z : Cst} (Y : FX K mg Z) {p_is_between : Sp} (h_is_between : Has P w K mg base 1 "is_between" ["value", "low", "high"] p_is_between) {sp : Sp} (len : ∀ vs H Q E, sp vs H Q E → vs.length = 1)
    (run : ∀ vs H Q E, sp vs H Q E → t_is_sheet K Z p_is_between { nx := fun _ H' => Q .non H', rt := Q } (L2.start N_is_sheet vs) H) : Has P w K mg base 2 "is_sheet" ["value"] sp := by
  obtain ⟨f, fd, F, gm⟩ := Y.df 40 _ rfl
  have b : Binds K fd ["value"] [] := F.bindsN fun _ _ _ _ _ _ us hl => match us, hl with | [_], _ => rfl
  have G : FnOk P w K mg base CX0 2 f fd ["value"] sp := F.ok sc_is_sheet len fun cdv A outer s H vs Q E hr h => ⟨t_is_sheet K Z p_is_between, PSs.nox (pss_cons (ps_if (PW.pt (pw_or (pt_not (pt_val (pe_callB call_isi rfl (Y.fr 0 _ rfl) boot_isinstance (pa_cons (pv 0) (pa_cons (pe_ty (Y.fr 3 _ rfl) rfl boot_tuple) pa_nil))))) (pw_or1 (pt_cmpR op_ne (pe_callB call_lenA rfl (Y.fr 6 _ rfl) boot_len (pa_cons (pv 0) pa_nil)) (pe_gi (Y.gi 12 _ rfl) rfl) rfl)))) (pss_one (ps_ret pe_bl)) pss_nil)
    (pss_cons (ps_for PassesOwn.never rfl (pi_tup (pv 0)) (pg_name (i := 1) sc_is_sheet.nd rfl (Or.inl rfl)) (pss_cons (ps_if (PW.pt (pw_or (pt_not (pt_val (pe_callB call_isi rfl (Y.fr 0 _ rfl) boot_isinstance (pa_cons (pv 1) (pa_cons (pe_ty (Y.fr 3 _ rfl) rfl boot_tuple) pa_nil))))) (pw_or1 (pt_cmpR op_ne (pe_callB call_lenA rfl (Y.fr 6 _ rfl) boot_len (pa_cons (pv 1) pa_nil)) (pe_gi (Y.gi 12 _ rfl) rfl) rfl)))) (pss_one (ps_ret pe_bl)) pss_nil)
    (pss_one (ps_if (pt_not (pt_val (pe_callB (cr_all rfl) rfl (Y.fr 7 _ rfl) boot_all (pa_cons (pe_lc (own := [("pixel", 2)]) rfl sc_is_sheet.nd (pi_tup (pv 1)) (blkOk_by (N := N_is_sheet) (sc := defScope s_is_sheet) (by decide +kernel)) (fun _ _ _ _ _ => (pg_name (i := 2) sc_is_sheet.nd rfl (Or.inl rfl))) (fun _ _ _ _ _ => pts_nil) (fun _ _ _ _ _ => (pe_has h_is_between hr (by decide) rfl (pa_cons (pv 2) (pa_cons pe_int (pa_cons (pe_gi (Y.gi 5 _ rfl) rfl) pa_nil)))))) pa_nil)))) (pss_one (ps_ret pe_bl)) pss_nil))))
    (pss_one (ps_ret pe_bl)))), run vs H Q E h⟩
  exact ⟨f, fd, G, gm, F.kp, b, FunD.bindsA F fun _ _ _ _ _ _ us hl => match us, hl with | [_], _ => rfl⟩
/-! ### check_sheet -/
abbrev N_check_sheet : List Str := ["sheet", "name"]
theorem sc_check_sheet : FnScope N_check_sheet ["sheet", "name"] (defScope s_check_sheet) := ⟨rfl, rfl, rfl, by decide +kernel, rfl, by decide +kernel, by decide +kernel⟩
def t_check_sheet (K : PySem.W.Frag) (Z : Cst) (p_is_sheet : Sp) : TS :=
  (tIfS (tNot (tB (tCall p_is_sheet [] E0 (tCons (tVar 0) tNil)))) tNever tNext)
theorem ok_check_sheet {P : Program} {w : World} {K : PySem.W.Frag} {mg : Str → Option Value} {base : Heap} {Z : Cst} (Y : FX K mg Z) {p_is_sheet : Sp} (h_is_sheet : Has P w K mg base 2 "is_sheet" ["value"] p_is_sheet) {sp : Sp} (len : ∀ vs H Q E, sp vs H Q E → vs.length = 2)
    (run : ∀ vs H Q E, sp vs H Q E → t_check_sheet K Z p_is_sheet { nx := fun _ H' => Q .non H', rt := Q } (L2.start N_check_sheet vs) H) : Has P w K mg base 3 "check_sheet" ["sheet", "name"] sp := by
  obtain ⟨f, fd, F, gm⟩ := Y.df 41 _ rfl
  have b : Binds K fd ["sheet", "name"] [] := F.bindsN fun _ _ _ _ _ _ us hl => match us, hl with | [_, _], _ => rfl
  have G : FnOk P w K mg base CX0 3 f fd ["sheet", "name"] sp := F.ok sc_check_sheet len fun cdv A outer s H vs Q E hr h => ⟨t_check_sheet K Z p_is_sheet, PSs.nox (pss_one (ps_if (pt_not (pt_val (pe_has h_is_sheet hr (by decide) rfl (pa_cons (pv 0) pa_nil)))) (pss_one ps_never) pss_nil)), run vs H Q E h⟩
  exact ⟨f, fd, G, gm, F.kp, b, FunD.bindsA F fun _ _ _ _ _ _ us hl => match us, hl with | [_, _], _ => rfl⟩
/-! ### drawn_tile -/
abbrev N_drawn_tile : List Str := ["map_things", "style", "tile", "scale", "column", "row"]
theorem sc_drawn_tile : FnScope N_drawn_tile ["map_things", "style", "tile"] (defScope s_drawn_tile) := ⟨rfl, rfl, rfl, by decide +kernel, rfl, by decide +kernel, by decide +kernel⟩
def t_drawn_tile (K : PySem.W.Frag) (Z : Cst) (p_painted : Sp) : TS :=
  (tSeq (tAsg (tVar 2) (gTup K 3 (gCons (gName 3) (gCons (gName 4) (gCons (gName 5) gNil)))))
  (tRet (tCall p_painted [] E0 (tCons (tVar 0) (tCons (tVar 1) (tCons (tVar 3) (tCons (tTup (tCons (tOp rMu (tC (.int 16)) (tVar 4)) (tCons (tOp rMu (tC (.int 16)) (tVar 5)) (tCons (tC (.int 16)) (tCons (tC (.int 16)) tNil))))) tNil)))))))
theorem ok_drawn_tile {P : Program} {w : World} {K : PySem.W.Frag} {mg : Str → Option Value} {base : Heap} {Z : Cst} (Y : FX K mg Z) {p_painted : Sp} (h_painted : Has P w K mg base 7 "painted" ["map_things", "style", "scale", "window"] p_painted) {sp : Sp} (len : ∀ vs H Q E, sp vs H Q E → vs.length = 3)
    (run : ∀ vs H Q E, sp vs H Q E → t_drawn_tile K Z p_painted { nx := fun _ H' => Q .non H', rt := Q } (L2.start N_drawn_tile vs) H) : Has P w K mg base 8 "drawn_tile" ["map_things", "style", "tile"] sp := by
  obtain ⟨f, fd, F, gm⟩ := Y.df 42 _ rfl
  have b : Binds K fd ["map_things", "style", "tile"] [] := F.bindsN fun _ _ _ _ _ _ us hl => match us, hl with | [_, _, _], _ => rfl
  have G : FnOk P w K mg base CX0 8 f fd ["map_things", "style", "tile"] sp := F.ok sc_drawn_tile len fun cdv A outer s H vs Q E hr h => ⟨t_drawn_tile K Z p_painted, PSs.nox (pss_cons (ps_asg (pv 2) (pg_tup rfl (pgs_cons (pg_name (i := 3) sc_drawn_tile.nd rfl (Or.inl rfl)) (pgs_cons (pg_name (i := 4) sc_drawn_tile.nd rfl (Or.inl rfl)) (pgs_cons (pg_name (i := 5) sc_drawn_tile.nd rfl (Or.inl rfl)) pgs_nil)))))
    (pss_one (ps_ret (pe_has h_painted hr (by decide) rfl (pa_cons (pv 0) (pa_cons (pv 1) (pa_cons (pv 3) (pa_cons (pe_tup (pa_cons (pe_op op_mul (pe_gi (Y.gi 12 _ rfl) rfl) (pv 4)) (pa_cons (pe_op op_mul (pe_gi (Y.gi 12 _ rfl) rfl) (pv 5)) (pa_cons (pe_gi (Y.gi 12 _ rfl) rfl) (pa_cons (pe_gi (Y.gi 12 _ rfl) rfl) pa_nil))))) pa_nil)))))))), run vs H Q E h⟩
  exact ⟨f, fd, G, gm, F.kp, b, FunD.bindsA F fun _ _ _ _ _ _ us hl => match us, hl with | [_, _, _], _ => rfl⟩
/-! ### tile_picture -/
abbrev N_tile_picture : List Str := ["map_things", "style", "tile"]
theorem sc_tile_picture : FnScope N_tile_picture ["map_things", "style", "tile"] (defScope s_tile_picture) := ⟨rfl, rfl, rfl, by decide +kernel, rfl, by decide +kernel, by decide +kernel⟩
def t_tile_picture (K : PySem.W.Frag) (Z : Cst) (p_check_map : Sp) (p_check_style : Sp) (p_is_tile : Sp) (p_drawn_tile : Sp) : TS :=
  (tSeq (tDrop (tCall p_check_map [] E0 (tCons (tVar 0) tNil)))
  (tSeq (tDrop (tCall p_check_style [] E0 (tCons (tVar 1) tNil)))
  (tSeq (tIfS (tNot (tB (tCall p_is_tile [] E0 (tCons (tVar 2) tNil)))) tNever tNext)
  (tRet (tCall p_drawn_tile [] E0 (tCons (tVar 0) (tCons (tVar 1) (tCons (tVar 2) tNil))))))))
theorem ok_tile_picture {P : Program} {w : World} {K : PySem.W.Frag} {mg : Str → Option Value} {base : Heap} {Z : Cst} (Y : FX K mg Z) {p_check_map : Sp} (h_check_map : Has P w K mg base 8 "check_map" ["map_things"] p_check_map) {p_check_style : Sp} (h_check_style : Has P w K mg base 5 "check_style" ["style"] p_check_style) {p_is_tile : Sp} (h_is_tile : Has P w K mg base 3 "is_tile" ["value"] p_is_tile) {p_drawn_tile : Sp} (h_drawn_tile : Has P w K mg base 8 "drawn_tile" ["map_things", "style", "tile"] p_drawn_tile) {sp : Sp} (len : ∀ vs H Q E, sp vs H Q E → vs.length = 3)
    (run : ∀ vs H Q E, sp vs H Q E → t_tile_picture K Z p_check_map p_check_style p_is_tile p_drawn_tile { nx := fun _ H' => Q .non H', rt := Q } (L2.start N_tile_picture vs) H) : Has P w K mg base 9 "tile_picture" ["map_things", "style", "tile"] sp := by
  obtain ⟨f, fd, F, gm⟩ := Y.df 43 _ rfl
  have b : Binds K fd ["map_things", "style", "tile"] [] := F.bindsN fun _ _ _ _ _ _ us hl => match us, hl with | [_, _, _], _ => rfl
  have G : FnOk P w K mg base CX0 9 f fd ["map_things", "style", "tile"] sp := F.ok sc_tile_picture len fun cdv A outer s H vs Q E hr h => ⟨t_tile_picture K Z p_check_map p_check_style p_is_tile p_drawn_tile, PSs.nox (pss_cons (ps_expr (pe_has h_check_map hr (by decide) rfl (pa_cons (pv 0) pa_nil)))
    (pss_cons (ps_expr (pe_has h_check_style hr (by decide) rfl (pa_cons (pv 1) pa_nil)))
    (pss_cons (ps_if (pt_not (pt_val (pe_has h_is_tile hr (by decide) rfl (pa_cons (pv 2) pa_nil)))) (pss_one ps_never) pss_nil)
    (pss_one (ps_ret (pe_has h_drawn_tile hr (by decide) rfl (pa_cons (pv 0) (pa_cons (pv 1) (pa_cons (pv 2) pa_nil))))))))), run vs H Q E h⟩
  exact ⟨f, fd, G, gm, F.kp, b, FunD.bindsA F fun _ _ _ _ _ _ us hl => match us, hl with | [_, _, _], _ => rfl⟩
/-! ### check_sheets -/
abbrev N_check_sheets : List Str := ["sheets", "line", "sheet"]
theorem sc_check_sheets : FnScope N_check_sheets ["sheets"] (defScope s_check_sheets) := ⟨rfl, rfl, rfl, by decide +kernel, rfl, by decide +kernel, by decide +kernel⟩
def t_check_sheets (K : PySem.W.Frag) (Z : Cst) (p_check_sheet : Sp) : TS :=
  (tSeq (tIfS (tOr (tNot (tB (tCB (rIsi K) (tCons (tVar 0) (tCons (tC (.ty "list")) tNil))))) (tNot (tTest (tChain rLe rLe (tC (.int 1)) (tCB (rLenA K) (tCons (tVar 0) tNil)) (tC (.int 4)))))) tNever tNext)
  (tFor (iList K (tVar 0)) (gName 1) (tSeq (tIfS (tOr (tNot (tB (tCB (rIsi K) (tCons (tVar 1) (tCons (tC (.ty "list")) tNil))))) (tOr (tNot (tTest (tChain rLe rLe (tC (.int 1)) (tCB (rLenA K) (tCons (tVar 1) tNil)) (tC (.int 4))))) (tTest (tOp rNe (tCB (rLenA K) (tCons (tVar 1) tNil)) (tCB (rLenA K) (tCons (tOp (rIxL K) (tVar 0) (tC (.int 0))) tNil)))))) tNever tNext)
  (tFor (iList K (tVar 1)) (gName 2) (tDrop (tCall p_check_sheet [] E0 (tCons (tVar 2) (tCons (tC (.str "sheets")) tNil))))))))
theorem ok_check_sheets {P : Program} {w : World} {K : PySem.W.Frag} {mg : Str → Option Value} {base : Heap} {Z : Cst} (Y : FX K mg Z) {p_check_sheet : Sp} (h_check_sheet : Has P w K mg base 3 "check_sheet" ["sheet", "name"] p_check_sheet) {sp : Sp} (len : ∀ vs H Q E, sp vs H Q E → vs.length = 1)
    (run : ∀ vs H Q E, sp vs H Q E → t_check_sheets K Z p_check_sheet { nx := fun _ H' => Q .non H', rt := Q } (L2.start N_check_sheets vs) H) : Has P w K mg base 4 "check_sheets" ["sheets"] sp := by
  obtain ⟨f, fd, F, gm⟩ := Y.df 44 _ rfl
  have b : Binds K fd ["sheets"] [] := F.bindsN fun _ _ _ _ _ _ us hl => match us, hl with | [_], _ => rfl
  have G : FnOk P w K mg base CX0 4 f fd ["sheets"] sp := F.ok sc_check_sheets len fun cdv A outer s H vs Q E hr h => ⟨t_check_sheets K Z p_check_sheet, PSs.nox (pss_cons (ps_if (PW.pt (pw_or (pt_not (pt_val (pe_callB call_isi rfl (Y.fr 0 _ rfl) boot_isinstance (pa_cons (pv 0) (pa_cons (pe_ty (Y.fr 5 _ rfl) rfl boot_list) pa_nil))))) (pw_or1 (pt_not (pt_chain op_le op_le pe_int (pe_callB call_lenA rfl (Y.fr 6 _ rfl) boot_len (pa_cons (pv 0) pa_nil)) (pe_gi (Y.gi 15 _ rfl) rfl)))))) (pss_one ps_never) pss_nil)
    (pss_one (ps_for PassesOwn.never rfl (pi_list (pv 0)) (pg_name (i := 1) sc_check_sheets.nd rfl (Or.inl rfl)) (pss_cons (ps_if (PW.pt (pw_or (pt_not (pt_val (pe_callB call_isi rfl (Y.fr 0 _ rfl) boot_isinstance (pa_cons (pv 1) (pa_cons (pe_ty (Y.fr 5 _ rfl) rfl boot_list) pa_nil))))) (pw_or (pt_not (pt_chain op_le op_le pe_int (pe_callB call_lenA rfl (Y.fr 6 _ rfl) boot_len (pa_cons (pv 1) pa_nil)) (pe_gi (Y.gi 15 _ rfl) rfl))) (pw_or1 (pt_cmpR op_ne (pe_callB call_lenA rfl (Y.fr 6 _ rfl) boot_len (pa_cons (pv 1) pa_nil)) (pe_callB call_lenA rfl (Y.fr 6 _ rfl) boot_len (pa_cons (pe_ix ix_list (pv 0) pe_int (fun _ _ => rfl)) pa_nil)) rfl))))) (pss_one ps_never) pss_nil)
    (pss_one (ps_for PassesOwn.never rfl (pi_list (pv 1)) (pg_name (i := 2) sc_check_sheets.nd rfl (Or.inl rfl)) (pss_one (ps_expr (pe_has h_check_sheet hr (by decide) rfl (pa_cons (pv 2) (pa_cons pe_str pa_nil))))))))))), run vs H Q E h⟩
  exact ⟨f, fd, G, gm, F.kp, b, FunD.bindsA F fun _ _ _ _ _ _ us hl => match us, hl with | [_], _ => rfl⟩
/-! ### joined -/
abbrev N_joined : List Str := ["sheets", "rows", "line", "at", "row", "sheet"]
theorem sc_joined : FnScope N_joined ["sheets"] (defScope s_joined) := ⟨rfl, rfl, rfl, by decide +kernel, rfl, by decide +kernel, by decide +kernel⟩
def t_joined (K : PySem.W.Frag) (Z : Cst) (p_check_sheets : Sp) : TS :=
  (tSeq (tDrop (tCall p_check_sheets [] E0 (tCons (tVar 0) tNil)))
  (tSeq (tAsg (tLst tNil) (gName 1))
  (tSeq (tFor (iList K (tVar 0)) (gName 2) (tFor (iRng1 (tCons (tC (.int 16)) tNil)) (gName 3) (tSeq (tAsg (tTup tNil) (gName 4))
  (tSeq (tFor (iList K (tVar 2)) (gName 5) (tAsg (tOp (rCatA K) (tVar 4) (tOp (rIxT K) (tVar 5) (tVar 3))) (gName 4)))
  (tDrop (tBM K "list" rAppend (tVar 1) (tCons (tVar 4) tNil)))))))
  (tRet (tCB (rTupOf K) (tCons (tVar 1) tNil))))))
theorem ok_joined {P : Program} {w : World} {K : PySem.W.Frag} {mg : Str → Option Value} {base : Heap} {Z : Cst} (Y : FX K mg Z) {p_check_sheets : Sp} (h_check_sheets : Has P w K mg base 4 "check_sheets" ["sheets"] p_check_sheets) {sp : Sp} (len : ∀ vs H Q E, sp vs H Q E → vs.length = 1)
    (run : ∀ vs H Q E, sp vs H Q E → t_joined K Z p_check_sheets { nx := fun _ H' => Q .non H', rt := Q } (L2.start N_joined vs) H) : Has P w K mg base 5 "joined" ["sheets"] sp := by
  obtain ⟨f, fd, F, gm⟩ := Y.df 45 _ rfl
  have b : Binds K fd ["sheets"] [] := F.bindsN fun _ _ _ _ _ _ us hl => match us, hl with | [_], _ => rfl
  have G : FnOk P w K mg base CX0 5 f fd ["sheets"] sp := F.ok sc_joined len fun cdv A outer s H vs Q E hr h => ⟨t_joined K Z p_check_sheets, PSs.nox (pss_cons (ps_expr (pe_has h_check_sheets hr (by decide) rfl (pa_cons (pv 0) pa_nil)))
    (pss_cons (ps_set (i := 1) sc_joined.nd rfl (Or.inl rfl) (pe_lst pa_nil))
    (pss_cons (ps_for PassesOwn.never rfl (pi_list (pv 0)) (pg_name (i := 2) sc_joined.nd rfl (Or.inl rfl)) (pss_one (ps_for PassesOwn.never rfl (pi_range1 rfl (Y.fr 11 _ rfl) (pa_cons (pe_gi (Y.gi 12 _ rfl) rfl) pa_nil)) (pg_name (i := 3) sc_joined.nd rfl (Or.inl rfl)) (pss_cons (ps_set (i := 4) sc_joined.nd rfl (Or.inl rfl) (pe_tup pa_nil))
    (pss_cons (ps_for PassesOwn.never rfl (pi_list (pv 2)) (pg_name (i := 5) sc_joined.nd rfl (Or.inl rfl)) (pss_one (ps_set (i := 4) sc_joined.nd rfl (Or.inl rfl) (pe_op op_catA (pv 4) (pe_ix ix_tup (pv 5) (pv 3) (fun _ _ => rfl))))))
    (pss_one (ps_expr (pe_bm PySem.F.plainAttrs_list PySem.F.slot_list_append PySem.F.type_list_append mt_append (pv 1) (pa_cons (pv 4) pa_nil)))))))))
    (pss_one (ps_ret (pe_callTy call_tupOf rfl (Y.fr 3 _ rfl) boot_tuple (pa_cons (pv 1) pa_nil))))))), run vs H Q E h⟩
  exact ⟨f, fd, G, gm, F.kp, b, FunD.bindsA F fun _ _ _ _ _ _ us hl => match us, hl with | [_], _ => rfl⟩
/-! ### _law_stream -/
abbrev N__law_stream : List Str := ["_law_script"]
theorem sc__law_stream : FnScope N__law_stream ["_law_script"] (defScope s__law_stream) := ⟨rfl, rfl, rfl, by decide +kernel, rfl, by decide +kernel, by decide +kernel⟩
def t__law_stream (K : PySem.W.Frag) (Z : Cst) : TS :=
  (tRet (tLst (tCons (tCB (rListOf K) (tCons (tVar 0) tNil)) (tCons (tC (.int 0)) (tCons (tC (.int 0)) tNil)))))
theorem ok__law_stream {P : Program} {w : World} {K : PySem.W.Frag} {mg : Str → Option Value} {base : Heap} {Z : Cst} (Y : FX K mg Z) {sp : Sp} (len : ∀ vs H Q E, sp vs H Q E → vs.length = 1)
    (run : ∀ vs H Q E, sp vs H Q E → t__law_stream K Z { nx := fun _ H' => Q .non H', rt := Q } (L2.start N__law_stream vs) H) : Has P w K mg base 1 "_law_stream" ["_law_script"] sp := by
  obtain ⟨f, fd, F, gm⟩ := Y.df 46 _ rfl
  have b : Binds K fd ["_law_script"] [] := F.bindsN fun _ _ _ _ _ _ us hl => match us, hl with | [_], _ => rfl
  have G : FnOk P w K mg base CX0 1 f fd ["_law_script"] sp := F.ok sc__law_stream len fun cdv A outer s H vs Q E hr h => ⟨t__law_stream K Z, PSs.nox (pss_one (ps_ret (pe_lst (pa_cons (pe_callTy call_listOf rfl (Y.fr 5 _ rfl) boot_list (pa_cons (pv 0) pa_nil)) (pa_cons pe_int (pa_cons pe_int pa_nil)))))), run vs H Q E h⟩
  exact ⟨f, fd, G, gm, F.kp, b, FunD.bindsA F fun _ _ _ _ _ _ us hl => match us, hl with | [_], _ => rfl⟩
/-! ### _law_next -/
abbrev N__law_next : List Str := ["_law_stream_here", "_law_many", "_law_k", "_law_cell", "_law_digit"]
theorem sc__law_next : FnScope N__law_next ["_law_stream_here", "_law_many"] (defScope s__law_next) := ⟨rfl, rfl, rfl, by decide +kernel, rfl, by decide +kernel, by decide +kernel⟩
def t__law_next (K : PySem.W.Frag) (Z : Cst) : TS :=
  (tSeq (tIfS (tTest (tOp rEq (tOp (rIxL K) (tVar 0) (tC (.int 1))) (tC (.int 0)))) (tSeq (tAsg (tOp (rIxL K) (tVar 0) (tC (.int 2))) (gName 2))
  (tSeq (tAsg (tOp rAd (tC (.int 7)) (tVar 2)) (gName 3))
  (tSeq (tIfS (tTest (tOp rL (tVar 2) (tCB (rLenA K) (tCons (tOp (rIxL K) (tVar 0) (tC (.int 0))) tNil)))) (tAsg (tCB rAbs (tCons (tOp (rIxL K) (tOp (rIxL K) (tVar 0) (tC (.int 0))) (tVar 2)) tNil)) (gName 3)) tNext)
  (tSeq (tIfS (tTest (tOp rL (tVar 3) (tOp rPw (tC (.int 10)) (tC (.int 18))))) (tSeq (tAsg (tOp rMo (tCB rInt1 (tCons (tOp rAd (tOp rAd (tOp rMu (tVar 3) (tC (.int 48271))) (tOp rMu (tVar 2) (tC (.int 69621)))) (tC (.int 11))) tNil)) (tC (.int 2147483647))) (gName 3))
  (tAsg (tOp rAd (tOp rMu (tOp rMo (tCB rInt1 (tCons (tOp rAd (tOp rMu (tVar 3) (tC (.int 16807))) (tC (.int 13))) tNil)) (tC (.int 2147483647))) (tC (.int 65537))) (tVar 3)) (gName 3))) tNext)
  (tSeq (tAsg (tVar 3) (gSub (tVar 0) (tC (.int 1)) rSetL))
  (tAsg (tOp rAd (tVar 2) (tC (.int 1))) (gSub (tVar 0) (tC (.int 2)) rSetL))))))) tNext)
  (tSeq (tAsg (tOp rMo (tCB rInt1 (tCons (tOp (rIxL K) (tVar 0) (tC (.int 1))) tNil)) (tVar 1)) (gName 4))
  (tSeq (tAsg (tOp rFd (tOp (rIxL K) (tVar 0) (tC (.int 1))) (tVar 1)) (gSub (tVar 0) (tC (.int 1)) rSetL))
  (tRet (tVar 4)))))
theorem ok__law_next {P : Program} {w : World} {K : PySem.W.Frag} {mg : Str → Option Value} {base : Heap} {Z : Cst} (Y : FX K mg Z) {sp : Sp} (len : ∀ vs H Q E, sp vs H Q E → vs.length = 2)
    (run : ∀ vs H Q E, sp vs H Q E → t__law_next K Z { nx := fun _ H' => Q .non H', rt := Q } (L2.start N__law_next vs) H) : Has P w K mg base 1 "_law_next" ["_law_stream_here", "_law_many"] sp := by
  obtain ⟨f, fd, F, gm⟩ := Y.df 47 _ rfl
  have b : Binds K fd ["_law_stream_here", "_law_many"] [] := F.bindsN fun _ _ _ _ _ _ us hl => match us, hl with | [_, _], _ => rfl
  have G : FnOk P w K mg base CX0 1 f fd ["_law_stream_here", "_law_many"] sp := F.ok sc__law_next len fun cdv A outer s H vs Q E hr h => ⟨t__law_next K Z, PSs.nox (pss_cons (ps_if (pt_cmpR op_eq (pe_ix ix_list (pv 0) pe_int (fun _ _ => rfl)) pe_int rfl) (pss_cons (ps_set (i := 2) sc__law_next.nd rfl (Or.inl rfl) (pe_ix ix_list (pv 0) pe_int (fun _ _ => rfl)))
    (pss_cons (ps_set (i := 3) sc__law_next.nd rfl (Or.inl rfl) (pe_op op_add pe_int (pv 2)))
    (pss_cons (ps_if (pt_cmpR op_lt (pv 2) (pe_callB call_lenA rfl (Y.fr 6 _ rfl) boot_len (pa_cons (pe_ix ix_list (pv 0) pe_int (fun _ _ => rfl)) pa_nil)) rfl) (pss_one (ps_set (i := 3) sc__law_next.nd rfl (Or.inl rfl) (pe_callB call_absA rfl (Y.fr 9 _ rfl) boot_abs (pa_cons (pe_ix ix_list (pe_ix ix_list (pv 0) pe_int (fun _ _ => rfl)) (pv 2) (fun _ _ => rfl)) pa_nil)))) pss_nil)
    (pss_cons (ps_if (pt_cmpR op_lt (pv 3) (pe_op op_pow pe_int pe_int) rfl) (pss_cons (ps_set (i := 3) sc__law_next.nd rfl (Or.inl rfl) (pe_op op_mod (pe_callTy call_int1A rfl (Y.fr 1 _ rfl) boot_int (pa_cons (pe_op op_add (pe_op op_add (pe_op op_mul (pv 3) pe_int) (pe_op op_mul (pv 2) pe_int)) pe_int) pa_nil)) pe_int))
    (pss_one (ps_set (i := 3) sc__law_next.nd rfl (Or.inl rfl) (pe_op op_add (pe_op op_mul (pe_op op_mod (pe_callTy call_int1A rfl (Y.fr 1 _ rfl) boot_int (pa_cons (pe_op op_add (pe_op op_mul (pv 3) pe_int) pe_int) pa_nil)) pe_int) pe_int) (pv 3))))) pss_nil)
    (pss_cons (ps_asg (pv 3) (pg_sub (pv 0) pe_int set_list))
    (pss_one (ps_asg (pe_op op_add (pv 2) pe_int) (pg_sub (pv 0) pe_int set_list)))))))) pss_nil)
    (pss_cons (ps_set (i := 4) sc__law_next.nd rfl (Or.inl rfl) (pe_op op_mod (pe_callTy call_int1A rfl (Y.fr 1 _ rfl) boot_int (pa_cons (pe_ix ix_list (pv 0) pe_int (fun _ _ => rfl)) pa_nil)) (pv 1)))
    (pss_cons (ps_asg (pe_op op_fdiv (pe_ix ix_list (pv 0) pe_int (fun _ _ => rfl)) (pv 1)) (pg_sub (pv 0) pe_int set_list))
    (pss_one (ps_ret (pv 4)))))), run vs H Q E h⟩
  exact ⟨f, fd, G, gm, F.kp, b, FunD.bindsA F fun _ _ _ _ _ _ us hl => match us, hl with | [_, _], _ => rfl⟩
/-! ### _law_coordinate -/
abbrev N__law_coordinate : List Str := ["_law_stream_here", "_law_most"]
theorem sc__law_coordinate : FnScope N__law_coordinate ["_law_stream_here", "_law_most"] (defScope s__law_coordinate) := ⟨rfl, rfl, rfl, by decide +kernel, rfl, by decide +kernel, by decide +kernel⟩
def t__law_coordinate (K : PySem.W.Frag) (Z : Cst) (p__law_next : Sp) : TS :=
  (tRet (tOp rSu (tCall p__law_next [] E0 (tCons (tVar 0) (tCons (tOp rAd (tOp rMu (tC (.int 2)) (tVar 1)) (tC (.int 1))) tNil))) (tVar 1)))
theorem ok__law_coordinate {P : Program} {w : World} {K : PySem.W.Frag} {mg : Str → Option Value} {base : Heap} {Z : Cst} (Y : FX K mg Z) {p__law_next : Sp} (h__law_next : Has P w K mg base 1 "_law_next" ["_law_stream_here", "_law_many"] p__law_next) {sp : Sp} (len : ∀ vs H Q E, sp vs H Q E → vs.length = 2)
    (run : ∀ vs H Q E, sp vs H Q E → t__law_coordinate K Z p__law_next { nx := fun _ H' => Q .non H', rt := Q } (L2.start N__law_coordinate vs) H) : Has P w K mg base 2 "_law_coordinate" ["_law_stream_here", "_law_most"] sp := by
  obtain ⟨f, fd, F, gm⟩ := Y.df 48 _ rfl
  have b : Binds K fd ["_law_stream_here", "_law_most"] [] := F.bindsN fun _ _ _ _ _ _ us hl => match us, hl with | [_, _], _ => rfl
  have G : FnOk P w K mg base CX0 2 f fd ["_law_stream_here", "_law_most"] sp := F.ok sc__law_coordinate len fun cdv A outer s H vs Q E hr h => ⟨t__law_coordinate K Z p__law_next, PSs.nox (pss_one (ps_ret (pe_op op_sub (pe_has h__law_next hr (by decide) rfl (pa_cons (pv 0) (pa_cons (pe_op op_add (pe_op op_mul pe_int (pv 1)) pe_int) pa_nil))) (pv 1)))), run vs H Q E h⟩
  exact ⟨f, fd, G, gm, F.kp, b, FunD.bindsA F fun _ _ _ _ _ _ us hl => match us, hl with | [_, _], _ => rfl⟩
/-! ### _law_ring -/
abbrev N__law_ring : List Str := ["_law_stream_here", "_law_most", "_law_x", "_law_y", "_law_w", "_law_h", "_law_pick"]
theorem sc__law_ring : FnScope N__law_ring ["_law_stream_here", "_law_most"] (defScope s__law_ring) := ⟨rfl, rfl, rfl, by decide +kernel, rfl, by decide +kernel, by decide +kernel⟩
def t__law_ring (K : PySem.W.Frag) (Z : Cst) (p__law_coordinate : Sp) (p__law_next : Sp) : TS :=
  (tSeq (tAsg (tCall p__law_coordinate [] E0 (tCons (tVar 0) (tCons (tVar 1) tNil))) (gName 2))
  (tSeq (tAsg (tCall p__law_coordinate [] E0 (tCons (tVar 0) (tCons (tVar 1) tNil))) (gName 3))
  (tSeq (tAsg (tOp rAd (tC (.int 1)) (tCall p__law_next [] E0 (tCons (tVar 0) (tCons (tVar 1) tNil)))) (gName 4))
  (tSeq (tAsg (tOp rAd (tC (.int 1)) (tCall p__law_next [] E0 (tCons (tVar 0) (tCons (tVar 1) tNil)))) (gName 5))
  (tSeq (tAsg (tCall p__law_next [] E0 (tCons (tVar 0) (tCons (tC (.int 4)) tNil))) (gName 6))
  (tSeq (tIfS (tTest (tOp rEq (tVar 6) (tC (.int 0)))) (tRet (tTup (tCons (tTup (tCons (tVar 2) (tCons (tVar 3) tNil))) (tCons (tTup (tCons (tOp rAd (tVar 2) (tVar 4)) (tCons (tVar 3) tNil))) (tCons (tTup (tCons (tOp rAd (tVar 2) (tVar 4)) (tCons (tOp rAd (tVar 3) (tVar 5)) tNil))) (tCons (tTup (tCons (tVar 2) (tCons (tOp rAd (tVar 3) (tVar 5)) tNil))) tNil)))))) tNext)
  (tSeq (tIfS (tTest (tOp rEq (tVar 6) (tC (.int 1)))) (tRet (tTup (tCons (tTup (tCons (tVar 2) (tCons (tVar 3) tNil))) (tCons (tTup (tCons (tOp rAd (tVar 2) (tVar 4)) (tCons (tVar 3) tNil))) (tCons (tTup (tCons (tVar 2) (tCons (tOp rAd (tVar 3) (tVar 5)) tNil))) tNil))))) tNext)
  (tSeq (tIfS (tTest (tOp rEq (tVar 6) (tC (.int 2)))) (tRet (tTup (tCons (tTup (tCons (tVar 2) (tCons (tVar 3) tNil))) (tCons (tTup (tCons (tOp rAd (tVar 2) (tVar 4)) (tCons (tOp rSu (tVar 3) (tVar 5)) tNil))) (tCons (tTup (tCons (tOp rAd (tVar 2) (tOp rMu (tC (.int 2)) (tVar 4))) (tCons (tVar 3) tNil))) (tCons (tTup (tCons (tOp rAd (tVar 2) (tVar 4)) (tCons (tOp rAd (tVar 3) (tVar 5)) tNil))) tNil)))))) tNext)
  (tRet (tTup (tCons (tTup (tCons (tVar 2) (tCons (tVar 3) tNil))) (tCons (tTup (tCons (tOp rAd (tVar 2) (tOp rMu (tC (.int 2)) (tVar 4))) (tCons (tVar 3) tNil))) (tCons (tTup (tCons (tOp rAd (tVar 2) (tOp rMu (tC (.int 2)) (tVar 4))) (tCons (tOp rAd (tVar 3) (tOp rMu (tC (.int 2)) (tVar 5))) tNil))) (tCons (tTup (tCons (tOp rAd (tVar 2) (tVar 4)) (tCons (tOp rAd (tVar 3) (tVar 5)) tNil))) (tCons (tTup (tCons (tVar 2) (tCons (tOp rAd (tVar 3) (tOp rMu (tC (.int 2)) (tVar 5))) tNil))) tNil)))))))))))))))
theorem ok__law_ring {P : Program} {w : World} {K : PySem.W.Frag} {mg : Str → Option Value} {base : Heap} {Z : Cst} (Y : FX K mg Z) {p__law_coordinate : Sp} (h__law_coordinate : Has P w K mg base 2 "_law_coordinate" ["_law_stream_here", "_law_most"] p__law_coordinate) {p__law_next : Sp} (h__law_next : Has P w K mg base 1 "_law_next" ["_law_stream_here", "_law_many"] p__law_next) {sp : Sp} (len : ∀ vs H Q E, sp vs H Q E → vs.length = 2)
    (run : ∀ vs H Q E, sp vs H Q E → t__law_ring K Z p__law_coordinate p__law_next { nx := fun _ H' => Q .non H', rt := Q } (L2.start N__law_ring vs) H) : Has P w K mg base 3 "_law_ring" ["_law_stream_here", "_law_most"] sp := by
  obtain ⟨f, fd, F, gm⟩ := Y.df 49 _ rfl
  have b : Binds K fd ["_law_stream_here", "_law_most"] [] := F.bindsN fun _ _ _ _ _ _ us hl => match us, hl with | [_, _], _ => rfl
  have G : FnOk P w K mg base CX0 3 f fd ["_law_stream_here", "_law_most"] sp := F.ok sc__law_ring len fun cdv A outer s H vs Q E hr h => ⟨t__law_ring K Z p__law_coordinate p__law_next, PSs.nox (pss_cons (ps_set (i := 2) sc__law_ring.nd rfl (Or.inl rfl) (pe_has h__law_coordinate hr (by decide) rfl (pa_cons (pv 0) (pa_cons (pv 1) pa_nil))))
    (pss_cons (ps_set (i := 3) sc__law_ring.nd rfl (Or.inl rfl) (pe_has h__law_coordinate hr (by decide) rfl (pa_cons (pv 0) (pa_cons (pv 1) pa_nil))))
    (pss_cons (ps_set (i := 4) sc__law_ring.nd rfl (Or.inl rfl) (pe_op op_add pe_int (pe_has h__law_next hr (by decide) rfl (pa_cons (pv 0) (pa_cons (pv 1) pa_nil)))))
    (pss_cons (ps_set (i := 5) sc__law_ring.nd rfl (Or.inl rfl) (pe_op op_add pe_int (pe_has h__law_next hr (by decide) rfl (pa_cons (pv 0) (pa_cons (pv 1) pa_nil)))))
    (pss_cons (ps_set (i := 6) sc__law_ring.nd rfl (Or.inl rfl) (pe_has h__law_next hr (by decide) rfl (pa_cons (pv 0) (pa_cons pe_int pa_nil))))
    (pss_cons (ps_if (pt_cmpR op_eq (pv 6) pe_int rfl) (pss_one (ps_ret (pe_tup (pa_cons (pe_tup (pa_cons (pv 2) (pa_cons (pv 3) pa_nil))) (pa_cons (pe_tup (pa_cons (pe_op op_add (pv 2) (pv 4)) (pa_cons (pv 3) pa_nil))) (pa_cons (pe_tup (pa_cons (pe_op op_add (pv 2) (pv 4)) (pa_cons (pe_op op_add (pv 3) (pv 5)) pa_nil))) (pa_cons (pe_tup (pa_cons (pv 2) (pa_cons (pe_op op_add (pv 3) (pv 5)) pa_nil))) pa_nil))))))) pss_nil)
    (pss_cons (ps_if (pt_cmpR op_eq (pv 6) pe_int rfl) (pss_one (ps_ret (pe_tup (pa_cons (pe_tup (pa_cons (pv 2) (pa_cons (pv 3) pa_nil))) (pa_cons (pe_tup (pa_cons (pe_op op_add (pv 2) (pv 4)) (pa_cons (pv 3) pa_nil))) (pa_cons (pe_tup (pa_cons (pv 2) (pa_cons (pe_op op_add (pv 3) (pv 5)) pa_nil))) pa_nil)))))) pss_nil)
    (pss_cons (ps_if (pt_cmpR op_eq (pv 6) pe_int rfl) (pss_one (ps_ret (pe_tup (pa_cons (pe_tup (pa_cons (pv 2) (pa_cons (pv 3) pa_nil))) (pa_cons (pe_tup (pa_cons (pe_op op_add (pv 2) (pv 4)) (pa_cons (pe_op op_sub (pv 3) (pv 5)) pa_nil))) (pa_cons (pe_tup (pa_cons (pe_op op_add (pv 2) (pe_op op_mul pe_int (pv 4))) (pa_cons (pv 3) pa_nil))) (pa_cons (pe_tup (pa_cons (pe_op op_add (pv 2) (pv 4)) (pa_cons (pe_op op_add (pv 3) (pv 5)) pa_nil))) pa_nil))))))) pss_nil)
    (pss_one (ps_ret (pe_tup (pa_cons (pe_tup (pa_cons (pv 2) (pa_cons (pv 3) pa_nil))) (pa_cons (pe_tup (pa_cons (pe_op op_add (pv 2) (pe_op op_mul pe_int (pv 4))) (pa_cons (pv 3) pa_nil))) (pa_cons (pe_tup (pa_cons (pe_op op_add (pv 2) (pe_op op_mul pe_int (pv 4))) (pa_cons (pe_op op_add (pv 3) (pe_op op_mul pe_int (pv 5))) pa_nil))) (pa_cons (pe_tup (pa_cons (pe_op op_add (pv 2) (pv 4)) (pa_cons (pe_op op_add (pv 3) (pv 5)) pa_nil))) (pa_cons (pe_tup (pa_cons (pv 2) (pa_cons (pe_op op_add (pv 3) (pe_op op_mul pe_int (pv 5))) pa_nil))) pa_nil)))))))))))))))), run vs H Q E h⟩
  exact ⟨f, fd, G, gm, F.kp, b, FunD.bindsA F fun _ _ _ _ _ _ us hl => match us, hl with | [_, _], _ => rfl⟩
/-! ### _law_shape -/
abbrev N__law_shape : List Str := ["_law_stream_here", "_law_most", "_law_pick", "_law_points", "_law_k", "_law_point"]
theorem sc__law_shape : FnScope N__law_shape ["_law_stream_here", "_law_most"] (defScope s__law_shape) := ⟨rfl, rfl, rfl, by decide +kernel, rfl, by decide +kernel, by decide +kernel⟩
def t__law_shape (K : PySem.W.Frag) (Z : Cst) (p__law_next : Sp) (p__law_coordinate : Sp) (p__law_ring : Sp) : TS :=
  (tSeq (tAsg (tCall p__law_next [] E0 (tCons (tVar 0) (tCons (tC (.int 4)) tNil))) (gName 2))
  (tSeq (tIfS (tTest (tOp rEq (tVar 2) (tC (.int 0)))) (tRet (tTup (tCons (tC (.str "point")) (tCons (tTup (tCons (tCall p__law_coordinate [] E0 (tCons (tVar 0) (tCons (tVar 1) tNil))) (tCons (tCall p__law_coordinate [] E0 (tCons (tVar 0) (tCons (tVar 1) tNil))) tNil))) tNil)))) tNext)
  (tSeq (tIfS (tTest (tOp rEq (tVar 2) (tC (.int 1)))) (tSeq (tAsg (tLst (tCons (tTup (tCons (tCall p__law_coordinate [] E0 (tCons (tVar 0) (tCons (tVar 1) tNil))) (tCons (tCall p__law_coordinate [] E0 (tCons (tVar 0) (tCons (tVar 1) tNil))) tNil))) tNil)) (gName 3))
  (tSeq (tFor (iRng1 (tCons (tOp rAd (tC (.int 1)) (tCall p__law_next [] E0 (tCons (tVar 0) (tCons (tC (.int 4)) tNil)))) tNil)) (gName 4) (tSeq (tAsg (tTup (tCons (tCall p__law_coordinate [] E0 (tCons (tVar 0) (tCons (tVar 1) tNil))) (tCons (tCall p__law_coordinate [] E0 (tCons (tVar 0) (tCons (tVar 1) tNil))) tNil))) (gName 5))
  (tSeq (tIfS (tTest (tOp (rEqD K) (tVar 5) (tOp (rIxL K) (tVar 3) (tUn (rU fun i => .int (-i)) (tC (.int 1)))))) (tAsg (tTup (tCons (tOp rAd (tOp (rIxT K) (tVar 5) (tC (.int 0))) (tC (.int 1))) (tCons (tOp (rIxT K) (tVar 5) (tC (.int 1))) tNil))) (gName 5)) tNext)
  (tDrop (tBM K "list" rAppend (tVar 3) (tCons (tVar 5) tNil))))))
  (tRet (tTup (tCons (tC (.str "line")) (tCons (tCB (rTupOf K) (tCons (tVar 3) tNil)) tNil)))))) tNext)
  (tRet (tTup (tCons (tC (.str "area")) (tCons (tCB (rTupOf K) (tCons (tLc (iRng1 (tCons (tOp rAd (tC (.int 1)) (tCall p__law_next [] E0 (tCons (tVar 0) (tCons (tC (.int 2)) tNil)))) tNil)) (gName 4) tYes (tCall p__law_ring [] E0 (tCons (tVar 0) (tCons (tVar 1) tNil))) [4]) tNil)) tNil)))))))
theorem ok__law_shape {P : Program} {w : World} {K : PySem.W.Frag} {mg : Str → Option Value} {base : Heap} {Z : Cst} (Y : FX K mg Z) {p__law_next : Sp} (h__law_next : Has P w K mg base 1 "_law_next" ["_law_stream_here", "_law_many"] p__law_next) {p__law_coordinate : Sp} (h__law_coordinate : Has P w K mg base 2 "_law_coordinate" ["_law_stream_here", "_law_most"] p__law_coordinate) {p__law_ring : Sp} (h__law_ring : Has P w K mg base 3 "_law_ring" ["_law_stream_here", "_law_most"] p__law_ring) {sp : Sp} (len : ∀ vs H Q E, sp vs H Q E → vs.length = 2)
    (run : ∀ vs H Q E, sp vs H Q E → t__law_shape K Z p__law_next p__law_coordinate p__law_ring { nx := fun _ H' => Q .non H', rt := Q } (L2.start N__law_shape vs) H) : Has P w K mg base 4 "_law_shape" ["_law_stream_here", "_law_most"] sp := by
  obtain ⟨f, fd, F, gm⟩ := Y.df 50 _ rfl
  have b : Binds K fd ["_law_stream_here", "_law_most"] [] := F.bindsN fun _ _ _ _ _ _ us hl => match us, hl with | [_, _], _ => rfl
  have G : FnOk P w K mg base CX0 4 f fd ["_law_stream_here", "_law_most"] sp := F.ok sc__law_shape len fun cdv A outer s H vs Q E hr h => ⟨t__law_shape K Z p__law_next p__law_coordinate p__law_ring, PSs.nox (pss_cons (ps_set (i := 2) sc__law_shape.nd rfl (Or.inl rfl) (pe_has h__law_next hr (by decide) rfl (pa_cons (pv 0) (pa_cons pe_int pa_nil))))
    (pss_cons (ps_if (pt_cmpR op_eq (pv 2) pe_int rfl) (pss_one (ps_ret (pe_tup (pa_cons pe_str (pa_cons (pe_tup (pa_cons (pe_has h__law_coordinate hr (by decide) rfl (pa_cons (pv 0) (pa_cons (pv 1) pa_nil))) (pa_cons (pe_has h__law_coordinate hr (by decide) rfl (pa_cons (pv 0) (pa_cons (pv 1) pa_nil))) pa_nil))) pa_nil))))) pss_nil)
    (pss_cons (ps_if (pt_cmpR op_eq (pv 2) pe_int rfl) (pss_cons (ps_set (i := 3) sc__law_shape.nd rfl (Or.inl rfl) (pe_lst (pa_cons (pe_tup (pa_cons (pe_has h__law_coordinate hr (by decide) rfl (pa_cons (pv 0) (pa_cons (pv 1) pa_nil))) (pa_cons (pe_has h__law_coordinate hr (by decide) rfl (pa_cons (pv 0) (pa_cons (pv 1) pa_nil))) pa_nil))) pa_nil)))
    (pss_cons (ps_for PassesOwn.never rfl (pi_range1 rfl (Y.fr 11 _ rfl) (pa_cons (pe_op op_add pe_int (pe_has h__law_next hr (by decide) rfl (pa_cons (pv 0) (pa_cons pe_int pa_nil)))) pa_nil)) (pg_name (i := 4) sc__law_shape.nd rfl (Or.inl rfl)) (pss_cons (ps_set (i := 5) sc__law_shape.nd rfl (Or.inl rfl) (pe_tup (pa_cons (pe_has h__law_coordinate hr (by decide) rfl (pa_cons (pv 0) (pa_cons (pv 1) pa_nil))) (pa_cons (pe_has h__law_coordinate hr (by decide) rfl (pa_cons (pv 0) (pa_cons (pv 1) pa_nil))) pa_nil))))
    (pss_cons (ps_if (pt_cmpR (op_eqD (Room.units hr)) (pv 5) (pe_ix ix_list (pv 3) (pe_un un_neg pe_int) (fun _ _ => rfl)) rfl) (pss_one (ps_set (i := 5) sc__law_shape.nd rfl (Or.inl rfl) (pe_tup (pa_cons (pe_op op_add (pe_ix ix_tup (pv 5) pe_int (fun _ _ => rfl)) pe_int) (pa_cons (pe_ix ix_tup (pv 5) pe_int (fun _ _ => rfl)) pa_nil))))) pss_nil)
    (pss_one (ps_expr (pe_bm PySem.F.plainAttrs_list PySem.F.slot_list_append PySem.F.type_list_append mt_append (pv 3) (pa_cons (pv 5) pa_nil)))))))
    (pss_one (ps_ret (pe_tup (pa_cons pe_str (pa_cons (pe_callTy call_tupOf rfl (Y.fr 3 _ rfl) boot_tuple (pa_cons (pv 3) pa_nil)) pa_nil))))))) pss_nil)
    (pss_one (ps_ret (pe_tup (pa_cons pe_str (pa_cons (pe_callTy call_tupOf rfl (Y.fr 3 _ rfl) boot_tuple (pa_cons (pe_lc (own := [("_law_k", 4)]) rfl sc__law_shape.nd (pi_range1 rfl (Y.fr 11 _ rfl) (pa_cons (pe_op op_add pe_int (pe_has h__law_next hr (by decide) rfl (pa_cons (pv 0) (pa_cons pe_int pa_nil)))) pa_nil)) (blkOk_by (N := N__law_shape) (sc := defScope s__law_shape) (by decide +kernel)) (fun _ _ _ _ _ => (pg_name (i := 4) sc__law_shape.nd rfl (Or.inl rfl))) (fun _ _ _ _ _ => pts_nil) (fun _ _ _ _ _ => (pe_has h__law_ring hr (by decide) rfl (pa_cons (pv 0) (pa_cons (pv 1) pa_nil))))) pa_nil)) pa_nil)))))))), run vs H Q E h⟩
  exact ⟨f, fd, G, gm, F.kp, b, FunD.bindsA F fun _ _ _ _ _ _ us hl => match us, hl with | [_, _], _ => rfl⟩
/-! ### _law_map -/
abbrev N__law_map : List Str := ["_law_stream_here", "_law_most", "_law_things", "_law_k", "_law_kind"]
theorem sc__law_map : FnScope N__law_map ["_law_stream_here", "_law_most"] (defScope s__law_map) := ⟨rfl, rfl, rfl, by decide +kernel, rfl, by decide +kernel, by decide +kernel⟩
def t__law_map (K : PySem.W.Frag) (Z : Cst) (p__law_next : Sp) (p__law_shape : Sp) : TS :=
  (tSeq (tAsg (tLst tNil) (gName 2))
  (tSeq (tFor (iRng1 (tCons (tCall p__law_next [] E0 (tCons (tVar 0) (tCons (tC (.int 5)) tNil))) tNil)) (gName 3) (tSeq (tAsg (tOp (rIxL K) (tLst (tCons (tC (.str "farm")) (tCons (tC (.str "way")) (tCons (tC (.str "pond")) tNil)))) (tCall p__law_next [] E0 (tCons (tVar 0) (tCons (tC (.int 3)) tNil)))) (gName 4))
  (tDrop (tBM K "list" rAppend (tVar 2) (tCons (tTup (tCons (tOp rAddS2 (tC (.str "thing")) (tCB rStr1 (tCons (tVar 3) tNil))) (tCons (tVar 4) (tCons (tCall p__law_shape [] E0 (tCons (tVar 0) (tCons (tVar 1) tNil))) tNil)))) tNil)))))
  (tRet (tCB (rTupOf K) (tCons (tVar 2) tNil)))))
theorem ok__law_map {P : Program} {w : World} {K : PySem.W.Frag} {mg : Str → Option Value} {base : Heap} {Z : Cst} (Y : FX K mg Z) {p__law_next : Sp} (h__law_next : Has P w K mg base 1 "_law_next" ["_law_stream_here", "_law_many"] p__law_next) {p__law_shape : Sp} (h__law_shape : Has P w K mg base 4 "_law_shape" ["_law_stream_here", "_law_most"] p__law_shape) {sp : Sp} (len : ∀ vs H Q E, sp vs H Q E → vs.length = 2)
    (run : ∀ vs H Q E, sp vs H Q E → t__law_map K Z p__law_next p__law_shape { nx := fun _ H' => Q .non H', rt := Q } (L2.start N__law_map vs) H) : Has P w K mg base 5 "_law_map" ["_law_stream_here", "_law_most"] sp := by
  obtain ⟨f, fd, F, gm⟩ := Y.df 51 _ rfl
  have b : Binds K fd ["_law_stream_here", "_law_most"] [] := F.bindsN fun _ _ _ _ _ _ us hl => match us, hl with | [_, _], _ => rfl
  have G : FnOk P w K mg base CX0 5 f fd ["_law_stream_here", "_law_most"] sp := F.ok sc__law_map len fun cdv A outer s H vs Q E hr h => ⟨t__law_map K Z p__law_next p__law_shape, PSs.nox (pss_cons (ps_set (i := 2) sc__law_map.nd rfl (Or.inl rfl) (pe_lst pa_nil))
    (pss_cons (ps_for PassesOwn.never rfl (pi_range1 rfl (Y.fr 11 _ rfl) (pa_cons (pe_has h__law_next hr (by decide) rfl (pa_cons (pv 0) (pa_cons pe_int pa_nil))) pa_nil)) (pg_name (i := 3) sc__law_map.nd rfl (Or.inl rfl)) (pss_cons (ps_set (i := 4) sc__law_map.nd rfl (Or.inl rfl) (pe_ix ix_list (pe_lst (pa_cons pe_str (pa_cons pe_str (pa_cons pe_str pa_nil)))) (pe_has h__law_next hr (by decide) rfl (pa_cons (pv 0) (pa_cons pe_int pa_nil))) (fun _ _ => rfl)))
    (pss_one (ps_expr (pe_bm PySem.F.plainAttrs_list PySem.F.slot_list_append PySem.F.type_list_append mt_append (pv 2) (pa_cons (pe_tup (pa_cons (pe_op op_add_str pe_str (pe_callTy call_str1A rfl (Y.fr 4 _ rfl) boot_str (pa_cons (pv 3) pa_nil))) (pa_cons (pv 4) (pa_cons (pe_has h__law_shape hr (by decide) rfl (pa_cons (pv 0) (pa_cons (pv 1) pa_nil))) pa_nil)))) pa_nil))))))
    (pss_one (ps_ret (pe_callTy call_tupOf rfl (Y.fr 3 _ rfl) boot_tuple (pa_cons (pv 2) pa_nil)))))), run vs H Q E h⟩
  exact ⟨f, fd, G, gm, F.kp, b, FunD.bindsA F fun _ _ _ _ _ _ us hl => match us, hl with | [_, _], _ => rfl⟩
/-! ### _law_look -/
abbrev N__law_look : List Str := ["_law_stream_here", "_law_pick", "_law_colour"]
theorem sc__law_look : FnScope N__law_look ["_law_stream_here"] (defScope s__law_look) := ⟨rfl, rfl, rfl, by decide +kernel, rfl, by decide +kernel, by decide +kernel⟩
def t__law_look (K : PySem.W.Frag) (Z : Cst) (p__law_next : Sp) : TS :=
  (tSeq (tAsg (tCall p__law_next [] E0 (tCons (tVar 0) (tCons (tC (.int 3)) tNil))) (gName 1))
  (tSeq (tAsg (tOp rAd (tC (.int 1)) (tCall p__law_next [] E0 (tCons (tVar 0) (tCons (tC (.int 63)) tNil)))) (gName 2))
  (tSeq (tIfS (tTest (tOp rEq (tVar 1) (tC (.int 0)))) (tRet (tTup (tCons (tC (.str "fill")) (tCons (tVar 2) tNil)))) tNext)
  (tRet (tTup (tCons (tOp (rIxL K) (tLst (tCons (tC (.str "stroke")) (tCons (tC (.str "dot")) tNil))) (tOp rSu (tVar 1) (tC (.int 1)))) (tCons (tVar 2) (tCons (tOp rAd (tC (.int 1)) (tCall p__law_next [] E0 (tCons (tVar 0) (tCons (tOp (rIxL K) (tLst (tCons (tC (.int 3)) (tCons (tC (.int 16)) tNil))) (tCall p__law_next [] E0 (tCons (tVar 0) (tCons (tC (.int 2)) tNil)))) tNil)))) tNil))))))))
theorem ok__law_look {P : Program} {w : World} {K : PySem.W.Frag} {mg : Str → Option Value} {base : Heap} {Z : Cst} (Y : FX K mg Z) {p__law_next : Sp} (h__law_next : Has P w K mg base 1 "_law_next" ["_law_stream_here", "_law_many"] p__law_next) {sp : Sp} (len : ∀ vs H Q E, sp vs H Q E → vs.length = 1)
    (run : ∀ vs H Q E, sp vs H Q E → t__law_look K Z p__law_next { nx := fun _ H' => Q .non H', rt := Q } (L2.start N__law_look vs) H) : Has P w K mg base 2 "_law_look" ["_law_stream_here"] sp := by
  obtain ⟨f, fd, F, gm⟩ := Y.df 52 _ rfl
  have b : Binds K fd ["_law_stream_here"] [] := F.bindsN fun _ _ _ _ _ _ us hl => match us, hl with | [_], _ => rfl
  have G : FnOk P w K mg base CX0 2 f fd ["_law_stream_here"] sp := F.ok sc__law_look len fun cdv A outer s H vs Q E hr h => ⟨t__law_look K Z p__law_next, PSs.nox (pss_cons (ps_set (i := 1) sc__law_look.nd rfl (Or.inl rfl) (pe_has h__law_next hr (by decide) rfl (pa_cons (pv 0) (pa_cons pe_int pa_nil))))
    (pss_cons (ps_set (i := 2) sc__law_look.nd rfl (Or.inl rfl) (pe_op op_add pe_int (pe_has h__law_next hr (by decide) rfl (pa_cons (pv 0) (pa_cons pe_int pa_nil)))))
    (pss_cons (ps_if (pt_cmpR op_eq (pv 1) pe_int rfl) (pss_one (ps_ret (pe_tup (pa_cons pe_str (pa_cons (pv 2) pa_nil))))) pss_nil)
    (pss_one (ps_ret (pe_tup (pa_cons (pe_ix ix_list (pe_lst (pa_cons pe_str (pa_cons pe_str pa_nil))) (pe_op op_sub (pv 1) pe_int) (fun _ _ => rfl)) (pa_cons (pv 2) (pa_cons (pe_op op_add pe_int (pe_has h__law_next hr (by decide) rfl (pa_cons (pv 0) (pa_cons (pe_ix ix_list (pe_lst (pa_cons pe_int (pa_cons pe_int pa_nil))) (pe_has h__law_next hr (by decide) rfl (pa_cons (pv 0) (pa_cons pe_int pa_nil))) (fun _ _ => rfl)) pa_nil)))) pa_nil))))))))), run vs H Q E h⟩
  exact ⟨f, fd, G, gm, F.kp, b, FunD.bindsA F fun _ _ _ _ _ _ us hl => match us, hl with | [_], _ => rfl⟩
/-! ### _law_style -/
abbrev N__law_style : List Str := ["_law_stream_here", "_law_least", "_law_rules", "_law_k", "_law_low", "_law_kind", "_law_order"]
theorem sc__law_style : FnScope N__law_style ["_law_stream_here", "_law_least"] (defScope s__law_style) := ⟨rfl, rfl, rfl, by decide +kernel, rfl, by decide +kernel, by decide +kernel⟩
def t__law_style (K : PySem.W.Frag) (Z : Cst) (p__law_next : Sp) (p__law_look : Sp) : TS :=
  (tSeq (tAsg (tLst tNil) (gName 2))
  (tSeq (tFor (iRng1 (tCons (tOp rAd (tVar 1) (tCall p__law_next [] E0 (tCons (tVar 0) (tCons (tC (.int 6)) tNil)))) tNil)) (gName 3) (tSeq (tAsg (tCall p__law_next [] E0 (tCons (tVar 0) (tCons (tC (.int 4)) tNil))) (gName 4))
  (tSeq (tAsg (tOp (rIxL K) (tLst (tCons (tC (.str "")) (tCons (tC (.str "")) (tCons (tC (.str "farm")) (tCons (tC (.str "way")) (tCons (tC (.str "pond")) tNil)))))) (tCall p__law_next [] E0 (tCons (tVar 0) (tCons (tC (.int 5)) tNil)))) (gName 5))
  (tSeq (tAsg (tOp rSu (tCall p__law_next [] E0 (tCons (tVar 0) (tCons (tC (.int 5)) tNil))) (tC (.int 2))) (gName 6))
  (tDrop (tBM K "list" rAppend (tVar 2) (tCons (tTup (tCons (tVar 5) (tCons (tVar 4) (tCons (tCB rMin2 (tCons (tC (.int 6)) (tCons (tOp rAd (tVar 4) (tCall p__law_next [] E0 (tCons (tVar 0) (tCons (tC (.int 7)) tNil)))) tNil))) (tCons (tVar 6) (tCons (tCall p__law_look [] E0 (tCons (tVar 0) tNil)) tNil)))))) tNil)))))))
  (tRet (tCB (rTupOf K) (tCons (tVar 2) tNil)))))
theorem ok__law_style {P : Program} {w : World} {K : PySem.W.Frag} {mg : Str → Option Value} {base : Heap} {Z : Cst} (Y : FX K mg Z) {p__law_next : Sp} (h__law_next : Has P w K mg base 1 "_law_next" ["_law_stream_here", "_law_many"] p__law_next) {p__law_look : Sp} (h__law_look : Has P w K mg base 2 "_law_look" ["_law_stream_here"] p__law_look) {sp : Sp} (len : ∀ vs H Q E, sp vs H Q E → vs.length = 2)
    (run : ∀ vs H Q E, sp vs H Q E → t__law_style K Z p__law_next p__law_look { nx := fun _ H' => Q .non H', rt := Q } (L2.start N__law_style vs) H) : Has P w K mg base 3 "_law_style" ["_law_stream_here", "_law_least"] sp := by
  obtain ⟨f, fd, F, gm⟩ := Y.df 53 _ rfl
  have b : Binds K fd ["_law_stream_here", "_law_least"] [] := F.bindsN fun _ _ _ _ _ _ us hl => match us, hl with | [_, _], _ => rfl
  have G : FnOk P w K mg base CX0 3 f fd ["_law_stream_here", "_law_least"] sp := F.ok sc__law_style len fun cdv A outer s H vs Q E hr h => ⟨t__law_style K Z p__law_next p__law_look, PSs.nox (pss_cons (ps_set (i := 2) sc__law_style.nd rfl (Or.inl rfl) (pe_lst pa_nil))
    (pss_cons (ps_for PassesOwn.never rfl (pi_range1 rfl (Y.fr 11 _ rfl) (pa_cons (pe_op op_add (pv 1) (pe_has h__law_next hr (by decide) rfl (pa_cons (pv 0) (pa_cons pe_int pa_nil)))) pa_nil)) (pg_name (i := 3) sc__law_style.nd rfl (Or.inl rfl)) (pss_cons (ps_set (i := 4) sc__law_style.nd rfl (Or.inl rfl) (pe_has h__law_next hr (by decide) rfl (pa_cons (pv 0) (pa_cons pe_int pa_nil))))
    (pss_cons (ps_set (i := 5) sc__law_style.nd rfl (Or.inl rfl) (pe_ix ix_list (pe_lst (pa_cons pe_str (pa_cons pe_str (pa_cons pe_str (pa_cons pe_str (pa_cons pe_str pa_nil)))))) (pe_has h__law_next hr (by decide) rfl (pa_cons (pv 0) (pa_cons pe_int pa_nil))) (fun _ _ => rfl)))
    (pss_cons (ps_set (i := 6) sc__law_style.nd rfl (Or.inl rfl) (pe_op op_sub (pe_has h__law_next hr (by decide) rfl (pa_cons (pv 0) (pa_cons pe_int pa_nil))) pe_int))
    (pss_one (ps_expr (pe_bm PySem.F.plainAttrs_list PySem.F.slot_list_append PySem.F.type_list_append mt_append (pv 2) (pa_cons (pe_tup (pa_cons (pv 5) (pa_cons (pv 4) (pa_cons (pe_callB (call_min2A rfl) rfl (Y.fr 10 _ rfl) boot_min (pa_cons pe_int (pa_cons (pe_op op_add (pv 4) (pe_has h__law_next hr (by decide) rfl (pa_cons (pv 0) (pa_cons pe_int pa_nil)))) pa_nil))) (pa_cons (pv 6) (pa_cons (pe_has h__law_look hr (by decide) rfl (pa_cons (pv 0) pa_nil)) pa_nil)))))) pa_nil))))))))
    (pss_one (ps_ret (pe_callTy call_tupOf rfl (Y.fr 3 _ rfl) boot_tuple (pa_cons (pv 2) pa_nil)))))), run vs H Q E h⟩
  exact ⟨f, fd, G, gm, F.kp, b, FunD.bindsA F fun _ _ _ _ _ _ us hl => match us, hl with | [_, _], _ => rfl⟩
/-! ### _law_fits -/
abbrev N__law_fits : List Str := ["_law_look_here", "_law_shape_here"]
theorem sc__law_fits : FnScope N__law_fits ["_law_look_here", "_law_shape_here"] (defScope s__law_fits) := ⟨rfl, rfl, rfl, by decide +kernel, rfl, by decide +kernel, by decide +kernel⟩
def t__law_fits (K : PySem.W.Frag) (Z : Cst) : TS :=
  (tRet (tOp (rInD K) (tTup (tCons (tOp (rIxT K) (tVar 0) (tC (.int 0))) (tCons (tOp (rIxT K) (tVar 1) (tC (.int 0))) tNil))) (tLst (tCons (tTup (tCons (tC (.str "fill")) (tCons (tC (.str "area")) tNil))) (tCons (tTup (tCons (tC (.str "stroke")) (tCons (tC (.str "line")) tNil))) (tCons (tTup (tCons (tC (.str "stroke")) (tCons (tC (.str "area")) tNil))) (tCons (tTup (tCons (tC (.str "dot")) (tCons (tC (.str "point")) tNil))) tNil)))))))
theorem ok__law_fits {P : Program} {w : World} {K : PySem.W.Frag} {mg : Str → Option Value} {base : Heap} {Z : Cst} (Y : FX K mg Z) {sp : Sp} (len : ∀ vs H Q E, sp vs H Q E → vs.length = 2)
    (run : ∀ vs H Q E, sp vs H Q E → t__law_fits K Z { nx := fun _ H' => Q .non H', rt := Q } (L2.start N__law_fits vs) H) : Has P w K mg base 1 "_law_fits" ["_law_look_here", "_law_shape_here"] sp := by
  obtain ⟨f, fd, F, gm⟩ := Y.df 54 _ rfl
  have b : Binds K fd ["_law_look_here", "_law_shape_here"] [] := F.bindsN fun _ _ _ _ _ _ us hl => match us, hl with | [_, _], _ => rfl
  have G : FnOk P w K mg base CX0 1 f fd ["_law_look_here", "_law_shape_here"] sp := F.ok sc__law_fits len fun cdv A outer s H vs Q E hr h => ⟨t__law_fits K Z, PSs.nox (pss_one (ps_ret (pe_cmpR (op_inD (units65 hr)) (pe_tup (pa_cons (pe_ix ix_tup (pv 0) pe_int (fun _ _ => rfl)) (pa_cons (pe_ix ix_tup (pv 1) pe_int (fun _ _ => rfl)) pa_nil))) (pe_lst (pa_cons (pe_tup (pa_cons pe_str (pa_cons pe_str pa_nil))) (pa_cons (pe_tup (pa_cons pe_str (pa_cons pe_str pa_nil))) (pa_cons (pe_tup (pa_cons pe_str (pa_cons pe_str pa_nil))) (pa_cons (pe_tup (pa_cons pe_str (pa_cons pe_str pa_nil))) pa_nil))))) rfl))), run vs H Q E h⟩
  exact ⟨f, fd, G, gm, F.kp, b, FunD.bindsA F fun _ _ _ _ _ _ us hl => match us, hl with | [_, _], _ => rfl⟩
/-! ### _law_marks -/
abbrev N__law_marks : List Str := ["_law_things", "_law_style_here", "_law_scale", "_law_found", "_law_name", "_law_kind", "_law_shape_here", "_law_at", "_law_rule"]
theorem sc__law_marks : FnScope N__law_marks ["_law_things", "_law_style_here", "_law_scale"] (defScope s__law_marks) := ⟨rfl, rfl, rfl, by decide +kernel, rfl, by decide +kernel, by decide +kernel⟩
def t__law_marks (K : PySem.W.Frag) (Z : Cst) (p__law_fits : Sp) : TS :=
  (tSeq (tAsg (tLst tNil) (gName 3))
  (tSeq (tFor (iTup K (tVar 0)) (gTup K 3 (gCons (gName 4) (gCons (gName 5) (gCons (gName 6) gNil)))) (tFor (iRng1 (tCons (tCB (rLenA K) (tCons (tVar 1) tNil)) tNil)) (gName 7) (tSeq (tAsg (tOp (rIxT K) (tVar 1) (tVar 7)) (gName 8))
  (tIfS (tAnd (tTest (tOp (rIn K false) (tOp (rIxT K) (tVar 8) (tC (.int 0))) (tLst (tCons (tC (.str "")) (tCons (tVar 5) tNil))))) (tAnd (tTest (tChain rLe rLe (tOp (rIxT K) (tVar 8) (tC (.int 1))) (tVar 2) (tOp (rIxT K) (tVar 8) (tC (.int 2))))) (tB (tCall p__law_fits [] E0 (tCons (tOp (rIxT K) (tVar 8) (tC (.int 4))) (tCons (tVar 6) tNil)))))) (tDrop (tBM K "list" rAppend (tVar 3) (tCons (tTup (tCons (tOp (rIxT K) (tVar 8) (tC (.int 3))) (tCons (tVar 7) (tCons (tVar 4) tNil)))) tNil))) tNext))))
  (tRet (tCB (TX.rSortD K) (tCons (tVar 3) tNil)))))
theorem ok__law_marks {P : Program} {w : World} {K : PySem.W.Frag} {mg : Str → Option Value} {base : Heap} {Z : Cst} (Y : FX K mg Z) {p__law_fits : Sp} (h__law_fits : Has P w K mg base 1 "_law_fits" ["_law_look_here", "_law_shape_here"] p__law_fits) {sp : Sp} (len : ∀ vs H Q E, sp vs H Q E → vs.length = 3)
    (run : ∀ vs H Q E, sp vs H Q E → t__law_marks K Z p__law_fits { nx := fun _ H' => Q .non H', rt := Q } (L2.start N__law_marks vs) H) : Has P w K mg base 2 "_law_marks" ["_law_things", "_law_style_here", "_law_scale"] sp := by
  obtain ⟨f, fd, F, gm⟩ := Y.df 55 _ rfl
  have b : Binds K fd ["_law_things", "_law_style_here", "_law_scale"] [] := F.bindsN fun _ _ _ _ _ _ us hl => match us, hl with | [_, _, _], _ => rfl
  have G : FnOk P w K mg base CX0 2 f fd ["_law_things", "_law_style_here", "_law_scale"] sp := F.ok sc__law_marks len fun cdv A outer s H vs Q E hr h => ⟨t__law_marks K Z p__law_fits, PSs.nox (pss_cons (ps_set (i := 3) sc__law_marks.nd rfl (Or.inl rfl) (pe_lst pa_nil))
    (pss_cons (ps_for PassesOwn.never rfl (pi_tup (pv 0)) (pg_tup rfl (pgs_cons (pg_name (i := 4) sc__law_marks.nd rfl (Or.inl rfl)) (pgs_cons (pg_name (i := 5) sc__law_marks.nd rfl (Or.inl rfl)) (pgs_cons (pg_name (i := 6) sc__law_marks.nd rfl (Or.inl rfl)) pgs_nil)))) (pss_one (ps_for PassesOwn.never rfl (pi_range1 rfl (Y.fr 11 _ rfl) (pa_cons (pe_callB call_lenA rfl (Y.fr 6 _ rfl) boot_len (pa_cons (pv 1) pa_nil)) pa_nil)) (pg_name (i := 7) sc__law_marks.nd rfl (Or.inl rfl)) (pss_cons (ps_set (i := 8) sc__law_marks.nd rfl (Or.inl rfl) (pe_ix ix_tup (pv 1) (pv 7) (fun _ _ => rfl)))
    (pss_one (ps_if (PW.pt (pw_and (pt_cmpR op_in_seq (pe_ix ix_tup (pv 8) pe_int (fun _ _ => rfl)) (pe_lst (pa_cons pe_str (pa_cons (pv 5) pa_nil))) rfl) (pw_and (pt_chain op_le op_le (pe_ix ix_tup (pv 8) pe_int (fun _ _ => rfl)) (pv 2) (pe_ix ix_tup (pv 8) pe_int (fun _ _ => rfl))) (pw_and1 (pt_val (pe_has h__law_fits hr (by decide) rfl (pa_cons (pe_ix ix_tup (pv 8) pe_int (fun _ _ => rfl)) (pa_cons (pv 6) pa_nil)))))))) (pss_one (ps_expr (pe_bm PySem.F.plainAttrs_list PySem.F.slot_list_append PySem.F.type_list_append mt_append (pv 3) (pa_cons (pe_tup (pa_cons (pe_ix ix_tup (pv 8) pe_int (fun _ _ => rfl)) (pa_cons (pv 7) (pa_cons (pv 4) pa_nil)))) pa_nil)))) pss_nil))))))
    (pss_one (ps_ret (pe_callB (TX.call_sortD (Room.units hr)) rfl (Y.fr 13 _ rfl) boot_sorted (pa_cons (pv 3) pa_nil)))))), run vs H Q E h⟩
  exact ⟨f, fd, G, gm, F.kp, b, FunD.bindsA F fun _ _ _ _ _ _ us hl => match us, hl with | [_, _, _], _ => rfl⟩
/-! ### _law_edges -/
abbrev N__law_edges : List Str := ["_law_shape_here", "_law_found", "_law_ring_here", "_law_k"]
theorem sc__law_edges : FnScope N__law_edges ["_law_shape_here"] (defScope s__law_edges) := ⟨rfl, rfl, rfl, by decide +kernel, rfl, by decide +kernel, by decide +kernel⟩
def t__law_edges (K : PySem.W.Frag) (Z : Cst) : TS :=
  (tSeq (tIfS (tTest (tOp rEq (tOp (rIxT K) (tVar 0) (tC (.int 0))) (tC (.str "line")))) (tRet (tLc (iRng1 (tCons (tOp rSu (tCB (rLenA K) (tCons (tOp (rIxT K) (tVar 0) (tC (.int 1))) tNil)) (tC (.int 1))) tNil)) (gName 3) tYes (tTup (tCons (tOp (rIxT K) (tOp (rIxT K) (tVar 0) (tC (.int 1))) (tVar 3)) (tCons (tOp (rIxT K) (tOp (rIxT K) (tVar 0) (tC (.int 1))) (tOp rAd (tVar 3) (tC (.int 1)))) tNil))) [3])) tNext)
  (tSeq (tAsg (tLst tNil) (gName 1))
  (tSeq (tFor (iTup K (tOp (rIxT K) (tVar 0) (tC (.int 1)))) (gName 2) (tFor (iRng1 (tCons (tCB (rLenA K) (tCons (tVar 2) tNil)) tNil)) (gName 3) (tDrop (tBM K "list" rAppend (tVar 1) (tCons (tTup (tCons (tOp (rIxT K) (tVar 2) (tVar 3)) (tCons (tOp (rIxT K) (tVar 2) (tOp rMo (tOp rAd (tVar 3) (tC (.int 1))) (tCB (rLenA K) (tCons (tVar 2) tNil)))) tNil))) tNil)))))
  (tRet (tVar 1)))))
theorem ok__law_edges {P : Program} {w : World} {K : PySem.W.Frag} {mg : Str → Option Value} {base : Heap} {Z : Cst} (Y : FX K mg Z) {sp : Sp} (len : ∀ vs H Q E, sp vs H Q E → vs.length = 1)
    (run : ∀ vs H Q E, sp vs H Q E → t__law_edges K Z { nx := fun _ H' => Q .non H', rt := Q } (L2.start N__law_edges vs) H) : Has P w K mg base 1 "_law_edges" ["_law_shape_here"] sp := by
  obtain ⟨f, fd, F, gm⟩ := Y.df 56 _ rfl
  have b : Binds K fd ["_law_shape_here"] [] := F.bindsN fun _ _ _ _ _ _ us hl => match us, hl with | [_], _ => rfl
  have G : FnOk P w K mg base CX0 1 f fd ["_law_shape_here"] sp := F.ok sc__law_edges len fun cdv A outer s H vs Q E hr h => ⟨t__law_edges K Z, PSs.nox (pss_cons (ps_if (pt_cmpR op_eq (pe_ix ix_tup (pv 0) pe_int (fun _ _ => rfl)) pe_str rfl) (pss_one (ps_ret (pe_lc (own := [("_law_k", 3)]) rfl sc__law_edges.nd (pi_range1 rfl (Y.fr 11 _ rfl) (pa_cons (pe_op op_sub (pe_callB call_lenA rfl (Y.fr 6 _ rfl) boot_len (pa_cons (pe_ix ix_tup (pv 0) pe_int (fun _ _ => rfl)) pa_nil)) pe_int) pa_nil)) (blkOk_by (N := N__law_edges) (sc := defScope s__law_edges) (by decide +kernel)) (fun _ _ _ _ _ => (pg_name (i := 3) sc__law_edges.nd rfl (Or.inl rfl))) (fun _ _ _ _ _ => pts_nil) (fun _ _ _ _ _ => (pe_tup (pa_cons (pe_ix ix_tup (pe_ix ix_tup (pv 0) pe_int (fun _ _ => rfl)) (pv 3) (fun _ _ => rfl)) (pa_cons (pe_ix ix_tup (pe_ix ix_tup (pv 0) pe_int (fun _ _ => rfl)) (pe_op op_add (pv 3) pe_int) (fun _ _ => rfl)) pa_nil))))))) pss_nil)
    (pss_cons (ps_set (i := 1) sc__law_edges.nd rfl (Or.inl rfl) (pe_lst pa_nil))
    (pss_cons (ps_for PassesOwn.never rfl (pi_tup (pe_ix ix_tup (pv 0) pe_int (fun _ _ => rfl))) (pg_name (i := 2) sc__law_edges.nd rfl (Or.inl rfl)) (pss_one (ps_for PassesOwn.never rfl (pi_range1 rfl (Y.fr 11 _ rfl) (pa_cons (pe_callB call_lenA rfl (Y.fr 6 _ rfl) boot_len (pa_cons (pv 2) pa_nil)) pa_nil)) (pg_name (i := 3) sc__law_edges.nd rfl (Or.inl rfl)) (pss_one (ps_expr (pe_bm PySem.F.plainAttrs_list PySem.F.slot_list_append PySem.F.type_list_append mt_append (pv 1) (pa_cons (pe_tup (pa_cons (pe_ix ix_tup (pv 2) (pv 3) (fun _ _ => rfl)) (pa_cons (pe_ix ix_tup (pv 2) (pe_op op_mod (pe_op op_add (pv 3) pe_int) (pe_callB call_lenA rfl (Y.fr 6 _ rfl) boot_len (pa_cons (pv 2) pa_nil))) (fun _ _ => rfl)) pa_nil))) pa_nil)))))))
    (pss_one (ps_ret (pv 1)))))), run vs H Q E h⟩
  exact ⟨f, fd, G, gm, F.kp, b, FunD.bindsA F fun _ _ _ _ _ _ us hl => match us, hl with | [_], _ => rfl⟩
/-! ### _law_is_odd -/
abbrev N__law_is_odd : List Str := ["_law_shape_here", "_law_x", "_law_y", "_law_odd", "_law_a", "_law_b", "_law_side"]
theorem sc__law_is_odd : FnScope N__law_is_odd ["_law_shape_here", "_law_x", "_law_y"] (defScope s__law_is_odd) := ⟨rfl, rfl, rfl, by decide +kernel, rfl, by decide +kernel, by decide +kernel⟩
def t__law_is_odd (K : PySem.W.Frag) (Z : Cst) (p__law_edges : Sp) : TS :=
  (tSeq (tAsg (tC (.bl false)) (gName 3))
  (tSeq (tFor (iList K (tCall p__law_edges [] E0 (tCons (tVar 0) tNil))) (gTup K 2 (gCons (gName 4) (gCons (gName 5) gNil))) (tSeq (tIfS (tTest (tOp rG (tOp (rIxT K) (tVar 4) (tC (.int 1))) (tOp (rIxT K) (tVar 5) (tC (.int 1))))) (tPar 4 5 (tCons (tVar 5) (tCons (tVar 4) tNil))) tNext)
  (tIfS (tTest (tChain rLe rL (tOp rMu (tC (.int 2)) (tOp (rIxT K) (tVar 4) (tC (.int 1)))) (tVar 2) (tOp rMu (tC (.int 2)) (tOp (rIxT K) (tVar 5) (tC (.int 1)))))) (tSeq (tAsg (tOp rSu (tOp rMu (tOp rSu (tOp rMu (tC (.int 2)) (tOp (rIxT K) (tVar 5) (tC (.int 0)))) (tOp rMu (tC (.int 2)) (tOp (rIxT K) (tVar 4) (tC (.int 0))))) (tOp rSu (tVar 2) (tOp rMu (tC (.int 2)) (tOp (rIxT K) (tVar 4) (tC (.int 1)))))) (tOp rMu (tOp rSu (tVar 1) (tOp rMu (tC (.int 2)) (tOp (rIxT K) (tVar 4) (tC (.int 0))))) (tOp rSu (tOp rMu (tC (.int 2)) (tOp (rIxT K) (tVar 5) (tC (.int 1)))) (tOp rMu (tC (.int 2)) (tOp (rIxT K) (tVar 4) (tC (.int 1))))))) (gName 6))
  (tIfS (tTest (tOp rG (tVar 6) (tC (.int 0)))) (tAsg (tNotV (tVar 3)) (gName 3)) tNext)) tNext)))
  (tRet (tVar 3))))
theorem ok__law_is_odd {P : Program} {w : World} {K : PySem.W.Frag} {mg : Str → Option Value} {base : Heap} {Z : Cst} (Y : FX K mg Z) {p__law_edges : Sp} (h__law_edges : Has P w K mg base 1 "_law_edges" ["_law_shape_here"] p__law_edges) {sp : Sp} (len : ∀ vs H Q E, sp vs H Q E → vs.length = 3)
    (run : ∀ vs H Q E, sp vs H Q E → t__law_is_odd K Z p__law_edges { nx := fun _ H' => Q .non H', rt := Q } (L2.start N__law_is_odd vs) H) : Has P w K mg base 2 "_law_is_odd" ["_law_shape_here", "_law_x", "_law_y"] sp := by
  obtain ⟨f, fd, F, gm⟩ := Y.df 57 _ rfl
  have b : Binds K fd ["_law_shape_here", "_law_x", "_law_y"] [] := F.bindsN fun _ _ _ _ _ _ us hl => match us, hl with | [_, _, _], _ => rfl
  have G : FnOk P w K mg base CX0 2 f fd ["_law_shape_here", "_law_x", "_law_y"] sp := F.ok sc__law_is_odd len fun cdv A outer s H vs Q E hr h => ⟨t__law_is_odd K Z p__law_edges, PSs.nox (pss_cons (ps_set (i := 3) sc__law_is_odd.nd rfl (Or.inl rfl) pe_bl)
    (pss_cons (ps_for PassesOwn.never rfl (pi_list (pe_has h__law_edges hr (by decide) rfl (pa_cons (pv 0) pa_nil))) (pg_tup rfl (pgs_cons (pg_name (i := 4) sc__law_is_odd.nd rfl (Or.inl rfl)) (pgs_cons (pg_name (i := 5) sc__law_is_odd.nd rfl (Or.inl rfl)) pgs_nil))) (pss_cons (ps_if (pt_cmpR op_gt (pe_ix ix_tup (pv 4) pe_int (fun _ _ => rfl)) (pe_ix ix_tup (pv 5) pe_int (fun _ _ => rfl)) rfl) (pss_one (ps_par (i := 4) (j := 5) rfl sc__law_is_odd.nd rfl rfl (by decide) rfl rfl (pa_cons (pv 5) (pa_cons (pv 4) pa_nil)) rfl)) pss_nil)
    (pss_one (ps_if (pt_chain op_le op_lt (pe_op op_mul pe_int (pe_ix ix_tup (pv 4) pe_int (fun _ _ => rfl))) (pv 2) (pe_op op_mul pe_int (pe_ix ix_tup (pv 5) pe_int (fun _ _ => rfl)))) (pss_cons (ps_set (i := 6) sc__law_is_odd.nd rfl (Or.inl rfl) (pe_op op_sub (pe_op op_mul (pe_op op_sub (pe_op op_mul pe_int (pe_ix ix_tup (pv 5) pe_int (fun _ _ => rfl))) (pe_op op_mul pe_int (pe_ix ix_tup (pv 4) pe_int (fun _ _ => rfl)))) (pe_op op_sub (pv 2) (pe_op op_mul pe_int (pe_ix ix_tup (pv 4) pe_int (fun _ _ => rfl))))) (pe_op op_mul (pe_op op_sub (pv 1) (pe_op op_mul pe_int (pe_ix ix_tup (pv 4) pe_int (fun _ _ => rfl)))) (pe_op op_sub (pe_op op_mul pe_int (pe_ix ix_tup (pv 5) pe_int (fun _ _ => rfl))) (pe_op op_mul pe_int (pe_ix ix_tup (pv 4) pe_int (fun _ _ => rfl)))))))
    (pss_one (ps_if (pt_cmpR op_gt (pv 6) pe_int rfl) (pss_one (ps_set (i := 3) sc__law_is_odd.nd rfl (Or.inl rfl) (pe_not (pv 3)))) pss_nil))) pss_nil))))
    (pss_one (ps_ret (pv 3))))), run vs H Q E h⟩
  exact ⟨f, fd, G, gm, F.kp, b, FunD.bindsA F fun _ _ _ _ _ _ us hl => match us, hl with | [_, _, _], _ => rfl⟩
/-! ### _law_is_within -/
abbrev N__law_is_within : List Str := ["_law_a", "_law_b", "_law_x", "_law_y", "_law_square", "_law_ax", "_law_ay", "_law_bx", "_law_by", "_law_ends", "_law_ahead", "_law_behind", "_law_turn"]
theorem sc__law_is_within : FnScope N__law_is_within ["_law_a", "_law_b", "_law_x", "_law_y", "_law_square"] (defScope s__law_is_within) := ⟨rfl, rfl, rfl, by decide +kernel, rfl, by decide +kernel, by decide +kernel⟩
def t__law_is_within (K : PySem.W.Frag) (Z : Cst) : TS :=
  (tSeq (tAsg (tTup (tCons (tOp rMu (tC (.int 2)) (tOp (rIxT K) (tVar 0) (tC (.int 0)))) (tCons (tOp rMu (tC (.int 2)) (tOp (rIxT K) (tVar 0) (tC (.int 1)))) (tCons (tOp rMu (tC (.int 2)) (tOp (rIxT K) (tVar 1) (tC (.int 0)))) (tCons (tOp rMu (tC (.int 2)) (tOp (rIxT K) (tVar 1) (tC (.int 1)))) tNil))))) (gTup K 4 (gCons (gName 5) (gCons (gName 6) (gCons (gName 7) (gCons (gName 8) gNil))))))
  (tSeq (tAsg (tCB rMin2 (tCons (tOp rAd (tOp rPw (tOp rSu (tVar 2) (tVar 5)) (tC (.int 2))) (tOp rPw (tOp rSu (tVar 3) (tVar 6)) (tC (.int 2)))) (tCons (tOp rAd (tOp rPw (tOp rSu (tVar 2) (tVar 7)) (tC (.int 2))) (tOp rPw (tOp rSu (tVar 3) (tVar 8)) (tC (.int 2)))) tNil))) (gName 9))
  (tSeq (tAsg (tOp rAd (tOp rMu (tOp rSu (tVar 2) (tVar 5)) (tOp rSu (tVar 7) (tVar 5))) (tOp rMu (tOp rSu (tVar 3) (tVar 6)) (tOp rSu (tVar 8) (tVar 6)))) (gName 10))
  (tSeq (tAsg (tOp rAd (tOp rMu (tOp rSu (tVar 2) (tVar 7)) (tOp rSu (tVar 5) (tVar 7))) (tOp rMu (tOp rSu (tVar 3) (tVar 8)) (tOp rSu (tVar 6) (tVar 8)))) (gName 11))
  (tSeq (tIfS (tOr (tTest (tOp rLe (tVar 10) (tC (.int 0)))) (tTest (tOp rLe (tVar 11) (tC (.int 0))))) (tRet (tOp rLe (tVar 9) (tVar 4))) tNext)
  (tSeq (tAsg (tOp rSu (tOp rMu (tOp rSu (tVar 7) (tVar 5)) (tOp rSu (tVar 3) (tVar 6))) (tOp rMu (tOp rSu (tVar 8) (tVar 6)) (tOp rSu (tVar 2) (tVar 5)))) (gName 12))
  (tRet (tOp rLe (tOp rMu (tVar 12) (tVar 12)) (tOp rMu (tVar 4) (tOp rAd (tOp rPw (tOp rSu (tVar 7) (tVar 5)) (tC (.int 2))) (tOp rPw (tOp rSu (tVar 8) (tVar 6)) (tC (.int 2)))))))))))))
theorem ok__law_is_within {P : Program} {w : World} {K : PySem.W.Frag} {mg : Str → Option Value} {base : Heap} {Z : Cst} (Y : FX K mg Z) {sp : Sp} (len : ∀ vs H Q E, sp vs H Q E → vs.length = 5)
    (run : ∀ vs H Q E, sp vs H Q E → t__law_is_within K Z { nx := fun _ H' => Q .non H', rt := Q } (L2.start N__law_is_within vs) H) : Has P w K mg base 1 "_law_is_within" ["_law_a", "_law_b", "_law_x", "_law_y", "_law_square"] sp := by
  obtain ⟨f, fd, F, gm⟩ := Y.df 58 _ rfl
  have b : Binds K fd ["_law_a", "_law_b", "_law_x", "_law_y", "_law_square"] [] := F.bindsN fun _ _ _ _ _ _ us hl => match us, hl with | [_, _, _, _, _], _ => rfl
  have G : FnOk P w K mg base CX0 1 f fd ["_law_a", "_law_b", "_law_x", "_law_y", "_law_square"] sp := F.ok sc__law_is_within len fun cdv A outer s H vs Q E hr h => ⟨t__law_is_within K Z, PSs.nox (pss_cons (ps_asg (pe_tup (pa_cons (pe_op op_mul pe_int (pe_ix ix_tup (pv 0) pe_int (fun _ _ => rfl))) (pa_cons (pe_op op_mul pe_int (pe_ix ix_tup (pv 0) pe_int (fun _ _ => rfl))) (pa_cons (pe_op op_mul pe_int (pe_ix ix_tup (pv 1) pe_int (fun _ _ => rfl))) (pa_cons (pe_op op_mul pe_int (pe_ix ix_tup (pv 1) pe_int (fun _ _ => rfl))) pa_nil))))) (pg_tup rfl (pgs_cons (pg_name (i := 5) sc__law_is_within.nd rfl (Or.inl rfl)) (pgs_cons (pg_name (i := 6) sc__law_is_within.nd rfl (Or.inl rfl)) (pgs_cons (pg_name (i := 7) sc__law_is_within.nd rfl (Or.inl rfl)) (pgs_cons (pg_name (i := 8) sc__law_is_within.nd rfl (Or.inl rfl)) pgs_nil))))))
    (pss_cons (ps_set (i := 9) sc__law_is_within.nd rfl (Or.inl rfl) (pe_callB (call_min2A rfl) rfl (Y.fr 10 _ rfl) boot_min (pa_cons (pe_op op_add (pe_op op_pow (pe_op op_sub (pv 2) (pv 5)) pe_int) (pe_op op_pow (pe_op op_sub (pv 3) (pv 6)) pe_int)) (pa_cons (pe_op op_add (pe_op op_pow (pe_op op_sub (pv 2) (pv 7)) pe_int) (pe_op op_pow (pe_op op_sub (pv 3) (pv 8)) pe_int)) pa_nil))))
    (pss_cons (ps_set (i := 10) sc__law_is_within.nd rfl (Or.inl rfl) (pe_op op_add (pe_op op_mul (pe_op op_sub (pv 2) (pv 5)) (pe_op op_sub (pv 7) (pv 5))) (pe_op op_mul (pe_op op_sub (pv 3) (pv 6)) (pe_op op_sub (pv 8) (pv 6)))))
    (pss_cons (ps_set (i := 11) sc__law_is_within.nd rfl (Or.inl rfl) (pe_op op_add (pe_op op_mul (pe_op op_sub (pv 2) (pv 7)) (pe_op op_sub (pv 5) (pv 7))) (pe_op op_mul (pe_op op_sub (pv 3) (pv 8)) (pe_op op_sub (pv 6) (pv 8)))))
    (pss_cons (ps_if (PW.pt (pw_or (pt_cmpR op_le (pv 10) pe_int rfl) (pw_or1 (pt_cmpR op_le (pv 11) pe_int rfl)))) (pss_one (ps_ret (pe_cmpR op_le (pv 9) (pv 4) rfl))) pss_nil)
    (pss_cons (ps_set (i := 12) sc__law_is_within.nd rfl (Or.inl rfl) (pe_op op_sub (pe_op op_mul (pe_op op_sub (pv 7) (pv 5)) (pe_op op_sub (pv 3) (pv 6))) (pe_op op_mul (pe_op op_sub (pv 8) (pv 6)) (pe_op op_sub (pv 2) (pv 5)))))
    (pss_one (ps_ret (pe_cmpR op_le (pe_op op_mul (pv 12) (pv 12)) (pe_op op_mul (pv 4) (pe_op op_add (pe_op op_pow (pe_op op_sub (pv 7) (pv 5)) pe_int) (pe_op op_pow (pe_op op_sub (pv 8) (pv 6)) pe_int))) rfl))))))))), run vs H Q E h⟩
  exact ⟨f, fd, G, gm, F.kp, b, FunD.bindsA F fun _ _ _ _ _ _ us hl => match us, hl with | [_, _, _, _, _], _ => rfl⟩
/-! ### _law_covers -/
abbrev N__law_covers : List Str := ["_law_look_here", "_law_shape_here", "_law_scale", "_law_px", "_law_py", "_law_unit", "_law_x", "_law_y", "_law_a", "_law_b"]
theorem sc__law_covers : FnScope N__law_covers ["_law_look_here", "_law_shape_here", "_law_scale", "_law_px", "_law_py"] (defScope s__law_covers) := ⟨rfl, rfl, rfl, by decide +kernel, rfl, by decide +kernel, by decide +kernel⟩
def t__law_covers (K : PySem.W.Frag) (Z : Cst) (p__law_is_odd : Sp) (p__law_edges : Sp) (p__law_is_within : Sp) : TS :=
  (tSeq (tAsg (tOp (rIxL K) (tLst (tCons (tC (.int 1)) (tCons (tC (.int 2)) (tCons (tC (.int 4)) (tCons (tC (.int 8)) (tCons (tC (.int 16)) (tCons (tC (.int 32)) (tCons (tC (.int 64)) tNil)))))))) (tVar 2)) (gName 5))
  (tSeq (tAsg (tOp rMu (tVar 5) (tOp rAd (tOp rMu (tC (.int 2)) (tVar 3)) (tC (.int 1)))) (gName 6))
  (tSeq (tAsg (tOp rMu (tVar 5) (tOp rAd (tOp rMu (tC (.int 2)) (tVar 4)) (tC (.int 1)))) (gName 7))
  (tSeq (tIfS (tTest (tOp rEq (tOp (rIxT K) (tVar 0) (tC (.int 0))) (tC (.str "fill")))) (tRet (tCall p__law_is_odd [] E0 (tCons (tVar 1) (tCons (tVar 6) (tCons (tVar 7) tNil))))) tNext)
  (tSeq (tIfS (tTest (tOp rEq (tOp (rIxT K) (tVar 0) (tC (.int 0))) (tC (.str "dot")))) (tRet (tOp rLe (tOp rAd (tOp rPw (tOp rSu (tVar 6) (tOp rMu (tC (.int 2)) (tOp (rIxT K) (tOp (rIxT K) (tVar 1) (tC (.int 1))) (tC (.int 0))))) (tC (.int 2))) (tOp rPw (tOp rSu (tVar 7) (tOp rMu (tC (.int 2)) (tOp (rIxT K) (tOp (rIxT K) (tVar 1) (tC (.int 1))) (tC (.int 1))))) (tC (.int 2)))) (tOp rPw (tOp rMu (tOp rMu (tC (.int 2)) (tVar 5)) (tOp (rIxT K) (tVar 0) (tC (.int 2)))) (tC (.int 2))))) tNext)
  (tRet (tCB (rAny K) (tCons (tLc (iList K (tCall p__law_edges [] E0 (tCons (tVar 1) tNil))) (gTup K 2 (gCons (gName 8) (gCons (gName 9) gNil))) tYes (tCall p__law_is_within [] E0 (tCons (tVar 8) (tCons (tVar 9) (tCons (tVar 6) (tCons (tVar 7) (tCons (tOp rPw (tOp rMu (tVar 5) (tOp (rIxT K) (tVar 0) (tC (.int 2)))) (tC (.int 2))) tNil)))))) [8, 9]) tNil))))))))
theorem ok__law_covers {P : Program} {w : World} {K : PySem.W.Frag} {mg : Str → Option Value} {base : Heap} {Z : Cst} (Y : FX K mg Z) {p__law_is_odd : Sp} (h__law_is_odd : Has P w K mg base 2 "_law_is_odd" ["_law_shape_here", "_law_x", "_law_y"] p__law_is_odd) {p__law_edges : Sp} (h__law_edges : Has P w K mg base 1 "_law_edges" ["_law_shape_here"] p__law_edges) {p__law_is_within : Sp} (h__law_is_within : Has P w K mg base 1 "_law_is_within" ["_law_a", "_law_b", "_law_x", "_law_y", "_law_square"] p__law_is_within) {sp : Sp} (len : ∀ vs H Q E, sp vs H Q E → vs.length = 5)
    (run : ∀ vs H Q E, sp vs H Q E → t__law_covers K Z p__law_is_odd p__law_edges p__law_is_within { nx := fun _ H' => Q .non H', rt := Q } (L2.start N__law_covers vs) H) : Has P w K mg base 3 "_law_covers" ["_law_look_here", "_law_shape_here", "_law_scale", "_law_px", "_law_py"] sp := by
  obtain ⟨f, fd, F, gm⟩ := Y.df 59 _ rfl
  have b : Binds K fd ["_law_look_here", "_law_shape_here", "_law_scale", "_law_px", "_law_py"] [] := F.bindsN fun _ _ _ _ _ _ us hl => match us, hl with | [_, _, _, _, _], _ => rfl
  have G : FnOk P w K mg base CX0 3 f fd ["_law_look_here", "_law_shape_here", "_law_scale", "_law_px", "_law_py"] sp := F.ok sc__law_covers len fun cdv A outer s H vs Q E hr h => ⟨t__law_covers K Z p__law_is_odd p__law_edges p__law_is_within, PSs.nox (pss_cons (ps_set (i := 5) sc__law_covers.nd rfl (Or.inr rfl) (pe_ix ix_list (pe_lst (pa_cons pe_int (pa_cons pe_int (pa_cons pe_int (pa_cons pe_int (pa_cons pe_int (pa_cons pe_int (pa_cons pe_int pa_nil)))))))) (pv 2) (fun _ _ => rfl)))
    (pss_cons (ps_set (i := 6) sc__law_covers.nd rfl (Or.inr rfl) (pe_op op_mul (pv 5) (pe_op op_add (pe_op op_mul pe_int (pv 3)) pe_int)))
    (pss_cons (ps_set (i := 7) sc__law_covers.nd rfl (Or.inr rfl) (pe_op op_mul (pv 5) (pe_op op_add (pe_op op_mul pe_int (pv 4)) pe_int)))
    (pss_cons (ps_if (pt_cmpR op_eq (pe_ix ix_tup (pv 0) pe_int (fun _ _ => rfl)) pe_str rfl) (pss_one (ps_ret (pe_has h__law_is_odd hr (by decide) rfl (pa_cons (pv 1) (pa_cons (pv 6) (pa_cons (pv 7) pa_nil)))))) pss_nil)
    (pss_cons (ps_if (pt_cmpR op_eq (pe_ix ix_tup (pv 0) pe_int (fun _ _ => rfl)) pe_str rfl) (pss_one (ps_ret (pe_cmpR op_le (pe_op op_add (pe_op op_pow (pe_op op_sub (pv 6) (pe_op op_mul pe_int (pe_ix ix_tup (pe_ix ix_tup (pv 1) pe_int (fun _ _ => rfl)) pe_int (fun _ _ => rfl)))) pe_int) (pe_op op_pow (pe_op op_sub (pv 7) (pe_op op_mul pe_int (pe_ix ix_tup (pe_ix ix_tup (pv 1) pe_int (fun _ _ => rfl)) pe_int (fun _ _ => rfl)))) pe_int)) (pe_op op_pow (pe_op op_mul (pe_op op_mul pe_int (pv 5)) (pe_ix ix_tup (pv 0) pe_int (fun _ _ => rfl))) pe_int) rfl))) pss_nil)
    (pss_one (ps_ret (pe_callB (cr_any rfl) rfl (Y.fr 8 _ rfl) boot_any (pa_cons (pe_lc (own := [("_law_a", 8), ("_law_b", 9)]) rfl sc__law_covers.nd (pi_list (pe_has h__law_edges hr (by decide) rfl (pa_cons (pv 1) pa_nil))) (blkOk_by (N := N__law_covers) (sc := defScope s__law_covers) (by decide +kernel)) (fun _ _ _ _ _ => (pg_tup rfl (pgs_cons (pg_name (i := 8) sc__law_covers.nd rfl (Or.inl rfl)) (pgs_cons (pg_name (i := 9) sc__law_covers.nd rfl (Or.inl rfl)) pgs_nil)))) (fun _ _ _ _ _ => pts_nil) (fun _ _ _ _ _ => (pe_has h__law_is_within hr (by decide) rfl (pa_cons (pv 8) (pa_cons (pv 9) (pa_cons (pv 6) (pa_cons (pv 7) (pa_cons (pe_op op_pow (pe_op op_mul (pv 5) (pe_ix ix_tup (pv 0) pe_int (fun _ _ => rfl))) pe_int) pa_nil)))))))) pa_nil))))))))), run vs H Q E h⟩
  exact ⟨f, fd, G, gm, F.kp, b, FunD.bindsA F fun _ _ _ _ _ _ us hl => match us, hl with | [_, _, _, _, _], _ => rfl⟩
/-! ### _law_top -/
abbrev N__law_top : List Str := ["_law_things", "_law_style_here", "_law_scale", "_law_px", "_law_py", "_law_shapes", "_law_name", "_law_kind", "_law_shape_here", "_law_found", "_law_order", "_law_at"]
theorem sc__law_top : FnScope N__law_top ["_law_things", "_law_style_here", "_law_scale", "_law_px", "_law_py"] (defScope s__law_top) := ⟨rfl, rfl, rfl, by decide +kernel, rfl, by decide +kernel, by decide +kernel⟩
def t__law_top (K : PySem.W.Frag) (Z : Cst) (p__law_marks : Sp) (p__law_covers : Sp) : TS :=
  (tSeq (tAsg tDNewK (gName 5))
  (tSeq (tFor (iTup K (tVar 0)) (gTup K 3 (gCons (gName 6) (gCons (gName 7) (gCons (gName 8) gNil)))) (sDPut (tVar 5) (tVar 6) (tVar 8)))
  (tSeq (tAsg (tTup (tCons (tC (.int 0)) (tCons (tC .non) tNil))) (gName 9))
  (tSeq (tFor (iList K (tCall p__law_marks [] E0 (tCons (tVar 0) (tCons (tVar 1) (tCons (tVar 2) tNil))))) (gTup K 3 (gCons (gName 10) (gCons (gName 11) (gCons (gName 6) gNil)))) (tIfS (tB (tCall p__law_covers [] E0 (tCons (tOp (rIxT K) (tOp (rIxT K) (tVar 1) (tVar 11)) (tC (.int 4))) (tCons (tDGet (tVar 5) (tVar 6)) (tCons (tVar 2) (tCons (tVar 3) (tCons (tVar 4) tNil))))))) (tAsg (tTup (tCons (tOp (rIxT K) (tOp (rIxT K) (tOp (rIxT K) (tVar 1) (tVar 11)) (tC (.int 4))) (tC (.int 1))) (tCons (tVar 6) tNil))) (gName 9)) tNext))
  (tRet (tVar 9))))))
theorem ok__law_top {P : Program} {w : World} {K : PySem.W.Frag} {mg : Str → Option Value} {base : Heap} {Z : Cst} (Y : FX K mg Z) {p__law_marks : Sp} (h__law_marks : Has P w K mg base 2 "_law_marks" ["_law_things", "_law_style_here", "_law_scale"] p__law_marks) {p__law_covers : Sp} (h__law_covers : Has P w K mg base 3 "_law_covers" ["_law_look_here", "_law_shape_here", "_law_scale", "_law_px", "_law_py"] p__law_covers) {sp : Sp} (len : ∀ vs H Q E, sp vs H Q E → vs.length = 5)
    (run : ∀ vs H Q E, sp vs H Q E → t__law_top K Z p__law_marks p__law_covers { nx := fun _ H' => Q .non H', rt := Q } (L2.start N__law_top vs) H) : Has P w K mg base 4 "_law_top" ["_law_things", "_law_style_here", "_law_scale", "_law_px", "_law_py"] sp := by
  obtain ⟨f, fd, F, gm⟩ := Y.df 60 _ rfl
  have b : Binds K fd ["_law_things", "_law_style_here", "_law_scale", "_law_px", "_law_py"] [] := F.bindsN fun _ _ _ _ _ _ us hl => match us, hl with | [_, _, _, _, _], _ => rfl
  have G : FnOk P w K mg base CX0 4 f fd ["_law_things", "_law_style_here", "_law_scale", "_law_px", "_law_py"] sp := F.ok sc__law_top len fun cdv A outer s H vs Q E hr h => ⟨t__law_top K Z p__law_marks p__law_covers, PSs.nox (pss_cons (ps_set (i := 5) sc__law_top.nd rfl (Or.inl rfl) pe_dnewK)
    (pss_cons (ps_for PassesOwn.never rfl (pi_tup (pv 0)) (pg_tup rfl (pgs_cons (pg_name (i := 6) sc__law_top.nd rfl (Or.inl rfl)) (pgs_cons (pg_name (i := 7) sc__law_top.nd rfl (Or.inl rfl)) (pgs_cons (pg_name (i := 8) sc__law_top.nd rfl (Or.inl rfl)) pgs_nil)))) (pss_one (ps_dput (hu_of hr) (pv 5) (pv 6) (pv 8) rfl)))
    (pss_cons (ps_set (i := 9) sc__law_top.nd rfl (Or.inl rfl) (pe_tup (pa_cons pe_int (pa_cons pe_non pa_nil))))
    (pss_cons (ps_for PassesOwn.never rfl (pi_list (pe_has h__law_marks hr (by decide) rfl (pa_cons (pv 0) (pa_cons (pv 1) (pa_cons (pv 2) pa_nil))))) (pg_tup rfl (pgs_cons (pg_name (i := 10) sc__law_top.nd rfl (Or.inl rfl)) (pgs_cons (pg_name (i := 11) sc__law_top.nd rfl (Or.inl rfl)) (pgs_cons (pg_name (i := 6) sc__law_top.nd rfl (Or.inl rfl)) pgs_nil)))) (pss_one (ps_if (pt_val (pe_has h__law_covers hr (by decide) rfl (pa_cons (pe_ix ix_tup (pe_ix ix_tup (pv 1) (pv 11) (fun _ _ => rfl)) pe_int (fun _ _ => rfl)) (pa_cons (pe_dget (hu_of hr) (pv 5) (pv 6) (fun _ _ => rfl)) (pa_cons (pv 2) (pa_cons (pv 3) (pa_cons (pv 4) pa_nil))))))) (pss_one (ps_set (i := 9) sc__law_top.nd rfl (Or.inl rfl) (pe_tup (pa_cons (pe_ix ix_tup (pe_ix ix_tup (pe_ix ix_tup (pv 1) (pv 11) (fun _ _ => rfl)) pe_int (fun _ _ => rfl)) pe_int (fun _ _ => rfl)) (pa_cons (pv 6) pa_nil))))) pss_nil)))
    (pss_one (ps_ret (pv 9))))))), run vs H Q E h⟩
  exact ⟨f, fd, G, gm, F.kp, b, FunD.bindsA F fun _ _ _ _ _ _ us hl => match us, hl with | [_, _, _, _, _], _ => rfl⟩
/-! ### law -/
abbrev N_law : List Str := ["_law_script", "_law_stream_here", "_law_things", "_law_style_here", "_law_scale", "_law_column", "_law_row", "_law_first", "_law_k", "_law_px", "_law_py", "_law_right", "_law_above"]
theorem sc_law : FnScope N_law ["_law_script"] (defScope s_law) := ⟨rfl, rfl, rfl, by decide +kernel, rfl, by decide +kernel, by decide +kernel⟩
def t_law (K : PySem.W.Frag) (Z : Cst) (p__law_stream : Sp) (p__law_map : Sp) (p__law_style : Sp) (p__law_next : Sp) (p__law_coordinate : Sp) (p_tile_picture : Sp) (p_is_sheet : Sp) (p_picture : Sp) (p__law_top : Sp) (p_joined : Sp) : TS :=
  (tSeq (tAsg (tCall p__law_stream [] E0 (tCons (tVar 0) tNil)) (gName 1))
  (tSeq (tAsg (tCall p__law_map [] E0 (tCons (tVar 1) (tCons (tC (.int 40)) tNil))) (gName 2))
  (tSeq (tAsg (tSl (rSlA K) (tCall p__law_style [] E0 (tCons (tVar 1) (tCons (tC (.int 1)) tNil))) tNoPart (tPart (tC (.int 3)))) (gName 3))
  (tSeq (tAsg (tCall p__law_next [] E0 (tCons (tVar 1) (tCons (tC (.int 7)) tNil))) (gName 4))
  (tSeq (tAsg (tCall p__law_coordinate [] E0 (tCons (tVar 1) (tCons (tC (.int 2)) tNil))) (gName 5))
  (tSeq (tAsg (tCall p__law_coordinate [] E0 (tCons (tVar 1) (tCons (tC (.int 2)) tNil))) (gName 6))
  (tSeq (tAsg (tCall p_tile_picture [] E0 (tCons (tVar 2) (tCons (tVar 3) (tCons (tTup (tCons (tVar 4) (tCons (tVar 5) (tCons (tVar 6) tNil)))) tNil)))) (gName 7))
  (tSeq (tIfS (tOr (tTest (tOp rNotB (tCall p_is_sheet [] E0 (tCons (tVar 7) tNil)) (tC (.bl true)))) (tTest (tOp (rNeD K) (tCall p_picture [] E0 (tCons (tVar 2) (tCons (tVar 3) (tCons (tVar 4) (tCons (tTup (tCons (tOp rMu (tC (.int 16)) (tVar 5)) (tCons (tOp rMu (tC (.int 16)) (tVar 6)) (tCons (tC (.int 16)) (tCons (tC (.int 16)) tNil))))) tNil))))) (tVar 7)))) (tRet (tC (.bl false))) tNext)
  (tSeq (tFor (iRng1 (tCons (tC (.int 4)) tNil)) (gName 8) (tSeq (tAsg (tCall p__law_next [] E0 (tCons (tVar 1) (tCons (tC (.int 16)) tNil))) (gName 9))
  (tSeq (tAsg (tCall p__law_next [] E0 (tCons (tVar 1) (tCons (tC (.int 16)) tNil))) (gName 10))
  (tIfS (tTest (tOp rNe (tOp (rIxT K) (tOp (rIxT K) (tVar 7) (tOp rSu (tC (.int 15)) (tVar 10))) (tVar 9)) (tOp (rIxT K) (tCall p__law_top [] E0 (tCons (tVar 2) (tCons (tVar 3) (tCons (tVar 4) (tCons (tOp rAd (tOp rMu (tC (.int 16)) (tVar 5)) (tVar 9)) (tCons (tOp rAd (tOp rMu (tC (.int 16)) (tVar 6)) (tVar 10)) tNil)))))) (tC (.int 0))))) (tRet (tC (.bl false))) tNext))))
  (tSeq (tIfS (tTest (tOp rEq (tCall p__law_next [] E0 (tCons (tVar 1) (tCons (tC (.int 2)) tNil))) (tC (.int 1)))) (tSeq (tAsg (tCall p_tile_picture [] E0 (tCons (tVar 2) (tCons (tVar 3) (tCons (tTup (tCons (tVar 4) (tCons (tOp rAd (tVar 5) (tC (.int 1))) (tCons (tVar 6) tNil)))) tNil)))) (gName 11))
  (tRet (tOp (rEqD K) (tCall p_joined [] E0 (tCons (tLst (tCons (tLst (tCons (tVar 7) (tCons (tVar 11) tNil))) tNil)) tNil)) (tCall p_picture [] E0 (tCons (tVar 2) (tCons (tVar 3) (tCons (tVar 4) (tCons (tTup (tCons (tOp rMu (tC (.int 16)) (tVar 5)) (tCons (tOp rMu (tC (.int 16)) (tVar 6)) (tCons (tC (.int 32)) (tCons (tC (.int 16)) tNil))))) tNil)))))))) tNext)
  (tSeq (tAsg (tCall p_tile_picture [] E0 (tCons (tVar 2) (tCons (tVar 3) (tCons (tTup (tCons (tVar 4) (tCons (tVar 5) (tCons (tOp rAd (tVar 6) (tC (.int 1))) tNil)))) tNil)))) (gName 12))
  (tRet (tOp (rEqD K) (tCall p_joined [] E0 (tCons (tLst (tCons (tLst (tCons (tVar 12) tNil)) (tCons (tLst (tCons (tVar 7) tNil)) tNil))) tNil)) (tCall p_picture [] E0 (tCons (tVar 2) (tCons (tVar 3) (tCons (tVar 4) (tCons (tTup (tCons (tOp rMu (tC (.int 16)) (tVar 5)) (tCons (tOp rMu (tC (.int 16)) (tVar 6)) (tCons (tC (.int 16)) (tCons (tC (.int 32)) tNil))))) tNil))))))))))))))))))
theorem ok_law {P : Program} {w : World} {K : PySem.W.Frag} {mg : Str → Option Value} {base : Heap} {Z : Cst} (Y : FX K mg Z) {p__law_stream : Sp} (h__law_stream : Has P w K mg base 1 "_law_stream" ["_law_script"] p__law_stream) {p__law_map : Sp} (h__law_map : Has P w K mg base 5 "_law_map" ["_law_stream_here", "_law_most"] p__law_map) {p__law_style : Sp} (h__law_style : Has P w K mg base 3 "_law_style" ["_law_stream_here", "_law_least"] p__law_style) {p__law_next : Sp} (h__law_next : Has P w K mg base 1 "_law_next" ["_law_stream_here", "_law_many"] p__law_next) {p__law_coordinate : Sp} (h__law_coordinate : Has P w K mg base 2 "_law_coordinate" ["_law_stream_here", "_law_most"] p__law_coordinate) {p_tile_picture : Sp} (h_tile_picture : Has P w K mg base 9 "tile_picture" ["map_things", "style", "tile"] p_tile_picture) {p_is_sheet : Sp} (h_is_sheet : Has P w K mg base 2 "is_sheet" ["value"] p_is_sheet) {p_picture : Sp} (h_picture : Has P w K mg base 9 "picture" ["map_things", "style", "scale", "window"] p_picture) {p__law_top : Sp} (h__law_top : Has P w K mg base 4 "_law_top" ["_law_things", "_law_style_here", "_law_scale", "_law_px", "_law_py"] p__law_top) {p_joined : Sp} (h_joined : Has P w K mg base 5 "joined" ["sheets"] p_joined) {sp : Sp} (len : ∀ vs H Q E, sp vs H Q E → vs.length = 1)
    (run : ∀ vs H Q E, sp vs H Q E → t_law K Z p__law_stream p__law_map p__law_style p__law_next p__law_coordinate p_tile_picture p_is_sheet p_picture p__law_top p_joined { nx := fun _ H' => Q .non H', rt := Q } (L2.start N_law vs) H) : Has P w K mg base 10 "law" ["_law_script"] sp := by
  obtain ⟨f, fd, F, gm⟩ := Y.df 61 _ rfl
  have b : Binds K fd ["_law_script"] [] := F.bindsN fun _ _ _ _ _ _ us hl => match us, hl with | [_], _ => rfl
  have G : FnOk P w K mg base CX0 10 f fd ["_law_script"] sp := F.ok sc_law len fun cdv A outer s H vs Q E hr h => ⟨t_law K Z p__law_stream p__law_map p__law_style p__law_next p__law_coordinate p_tile_picture p_is_sheet p_picture p__law_top p_joined, PSs.nox (pss_cons (ps_set (i := 1) sc_law.nd rfl (Or.inl rfl) (pe_has h__law_stream hr (by decide) rfl (pa_cons (pv 0) pa_nil)))
    (pss_cons (ps_set (i := 2) sc_law.nd rfl (Or.inl rfl) (pe_has h__law_map hr (by decide) rfl (pa_cons (pv 1) (pa_cons pe_int pa_nil))))
    (pss_cons (ps_set (i := 3) sc_law.nd rfl (Or.inl rfl) (pe_slice sl_tupA (pe_has h__law_style hr (by decide) rfl (pa_cons (pv 1) (pa_cons pe_int pa_nil))) po_none (po_some pe_int)))
    (pss_cons (ps_set (i := 4) sc_law.nd rfl (Or.inl rfl) (pe_has h__law_next hr (by decide) rfl (pa_cons (pv 1) (pa_cons pe_int pa_nil))))
    (pss_cons (ps_set (i := 5) sc_law.nd rfl (Or.inl rfl) (pe_has h__law_coordinate hr (by decide) rfl (pa_cons (pv 1) (pa_cons pe_int pa_nil))))
    (pss_cons (ps_set (i := 6) sc_law.nd rfl (Or.inl rfl) (pe_has h__law_coordinate hr (by decide) rfl (pa_cons (pv 1) (pa_cons pe_int pa_nil))))
    (pss_cons (ps_set (i := 7) sc_law.nd rfl (Or.inl rfl) (pe_has h_tile_picture hr (by decide) rfl (pa_cons (pv 2) (pa_cons (pv 3) (pa_cons (pe_tup (pa_cons (pv 4) (pa_cons (pv 5) (pa_cons (pv 6) pa_nil)))) pa_nil)))))
    (pss_cons (ps_if (PW.pt (pw_or (pt_cmpR op_notBl (pe_has h_is_sheet hr (by decide) rfl (pa_cons (pv 7) pa_nil)) pe_bl rfl) (pw_or1 (pt_cmpR (op_neD (Room.units hr)) (pe_has h_picture hr (by decide) rfl (pa_cons (pv 2) (pa_cons (pv 3) (pa_cons (pv 4) (pa_cons (pe_tup (pa_cons (pe_op op_mul pe_int (pv 5)) (pa_cons (pe_op op_mul pe_int (pv 6)) (pa_cons pe_int (pa_cons pe_int pa_nil))))) pa_nil))))) (pv 7) rfl)))) (pss_one (ps_ret pe_bl)) pss_nil)
    (pss_cons (ps_for PassesOwn.never rfl (pi_range1 rfl (Y.fr 11 _ rfl) (pa_cons pe_int pa_nil)) (pg_name (i := 8) sc_law.nd rfl (Or.inl rfl)) (pss_cons (ps_set (i := 9) sc_law.nd rfl (Or.inl rfl) (pe_has h__law_next hr (by decide) rfl (pa_cons (pv 1) (pa_cons pe_int pa_nil))))
    (pss_cons (ps_set (i := 10) sc_law.nd rfl (Or.inl rfl) (pe_has h__law_next hr (by decide) rfl (pa_cons (pv 1) (pa_cons pe_int pa_nil))))
    (pss_one (ps_if (pt_cmpR op_ne (pe_ix ix_tup (pe_ix ix_tup (pv 7) (pe_op op_sub pe_int (pv 10)) (fun _ _ => rfl)) (pv 9) (fun _ _ => rfl)) (pe_ix ix_tup (pe_has h__law_top hr (by decide) rfl (pa_cons (pv 2) (pa_cons (pv 3) (pa_cons (pv 4) (pa_cons (pe_op op_add (pe_op op_mul pe_int (pv 5)) (pv 9)) (pa_cons (pe_op op_add (pe_op op_mul pe_int (pv 6)) (pv 10)) pa_nil)))))) pe_int (fun _ _ => rfl)) rfl) (pss_one (ps_ret pe_bl)) pss_nil)))))
    (pss_cons (ps_if (pt_cmpR op_eq (pe_has h__law_next hr (by decide) rfl (pa_cons (pv 1) (pa_cons pe_int pa_nil))) pe_int rfl) (pss_cons (ps_set (i := 11) sc_law.nd rfl (Or.inl rfl) (pe_has h_tile_picture hr (by decide) rfl (pa_cons (pv 2) (pa_cons (pv 3) (pa_cons (pe_tup (pa_cons (pv 4) (pa_cons (pe_op op_add (pv 5) pe_int) (pa_cons (pv 6) pa_nil)))) pa_nil)))))
    (pss_one (ps_ret (pe_cmpR (op_eqD (Room.units hr)) (pe_has h_joined hr (by decide) rfl (pa_cons (pe_lst (pa_cons (pe_lst (pa_cons (pv 7) (pa_cons (pv 11) pa_nil))) pa_nil)) pa_nil)) (pe_has h_picture hr (by decide) rfl (pa_cons (pv 2) (pa_cons (pv 3) (pa_cons (pv 4) (pa_cons (pe_tup (pa_cons (pe_op op_mul pe_int (pv 5)) (pa_cons (pe_op op_mul pe_int (pv 6)) (pa_cons pe_int (pa_cons pe_int pa_nil))))) pa_nil))))) rfl)))) pss_nil)
    (pss_cons (ps_set (i := 12) sc_law.nd rfl (Or.inl rfl) (pe_has h_tile_picture hr (by decide) rfl (pa_cons (pv 2) (pa_cons (pv 3) (pa_cons (pe_tup (pa_cons (pv 4) (pa_cons (pv 5) (pa_cons (pe_op op_add (pv 6) pe_int) pa_nil)))) pa_nil)))))
    (pss_one (ps_ret (pe_cmpR (op_eqD (Room.units hr)) (pe_has h_joined hr (by decide) rfl (pa_cons (pe_lst (pa_cons (pe_lst (pa_cons (pv 12) pa_nil)) (pa_cons (pe_lst (pa_cons (pv 7) pa_nil)) pa_nil))) pa_nil)) (pe_has h_picture hr (by decide) rfl (pa_cons (pv 2) (pa_cons (pv 3) (pa_cons (pv 4) (pa_cons (pe_tup (pa_cons (pe_op op_mul pe_int (pv 5)) (pa_cons (pe_op op_mul pe_int (pv 6)) (pa_cons pe_int (pa_cons pe_int pa_nil))))) pa_nil))))) rfl)))))))))))))), run vs H Q E h⟩
  exact ⟨f, fd, G, gm, F.kp, b, FunD.bindsA F fun _ _ _ _ _ _ us hl => match us, hl with | [_], _ => rfl⟩
end TA

/-! The data of the program: points, rings, shapes, things, rules; what the defs answer. -/
namespace TA
open PySem L2
abbrev Pt := Int × Int
inductive Sh where
  | pt (p : Pt)
  | ln (ps : List Pt)
  | ar (rs : List (List Pt))
inductive Lk where
  | fill (c : Int)
  | stroke (c s : Int)
  | dot (c s : Int)
structure Th where
  nm : Str
  kd : Str
  sh : Sh
structure Ru where
  kd : Str
  lo : Int
  hi : Int
  od : Int
  lk : Lk
def dR (ps : List Pt) : D := .tup (ps.map dP)
def dSh : Sh → D
  | .pt p => .tup [.str "point", dP p]
  | .ln ps => .tup [.str "line", dR ps]
  | .ar rs => .tup [.str "area", .tup (rs.map dR)]
def dLk : Lk → D
  | .fill c => .tup [.str "fill", .int c]
  | .stroke c s => .tup [.str "stroke", .int c, .int s]
  | .dot c s => .tup [.str "dot", .int c, .int s]
def dTh (t : Th) : D := .tup [.str t.nm, .str t.kd, dSh t.sh]
def dRu (r : Ru) : D := .tup [.str r.kd, .int r.lo, .int r.hi, .int r.od, dLk r.lk]
def dMap (ts : List Th) : D := .tup (ts.map dTh)
def dSty (rs : List Ru) : D := .tup (rs.map dRu)
/-- an edge: a pair of points -/
def dE (e : Pt × Pt) : D := .tup [dP e.1, dP e.2]

/-! ### geometry -/
def ltP (p q : Pt) : Bool := HT.lexLt [p.1, p.2] [q.1, q.2]
def turnF (a b c : Pt) : Int := (b.1 - a.1) * (c.2 - a.2) - (b.2 - a.2) * (c.1 - a.1)
def edgeF (p q : Pt) : Pt × Pt := if ltP p q = true then (p, q) else (q, p)
def besF (a b : Int) : Bool := (decide (0 < a) && decide (0 < b)) || (decide (a < 0) && decide (b < 0))
/-- Python's points[i - 1] at a place i of a ring -/
def atP (ps : List Pt) (i : Nat) : Pt := ps.getD i (0, 0)
def edgesF (ps : List Pt) : List (Pt × Pt) := (List.range (ps.length - 1)).map (fun i => edgeF (atP ps i) (atP ps (i + 1))) ++ [edgeF (atP ps (ps.length - 1)) (atP ps 0)]
def PtOk (p : Pt) : Prop := (-1000 ≤ p.1 ∧ p.1 ≤ 1000) ∧ -1000 ≤ p.2 ∧ p.2 ≤ 1000
/-- what meet tells of two edges, where it tells none or touch -/
def meetF (e f : Pt × Pt) : Option Bool :=
  let tc := turnF e.1 e.2 f.1
  let td := turnF e.1 e.2 f.2
  let ta := turnF f.1 f.2 e.1
  let tb := turnF f.1 f.2 e.2
  if tc = 0 ∧ td = 0 then none
  else if besF tc td = true ∨ besF ta tb = true then some false
  else if tc = 0 ∨ td = 0 ∨ ta = 0 ∨ tb = 0 then some true
  else none
def simpleB (ps : List Pt) : Bool :=
  (List.range ps.length).all fun i => (decide (atP ps i ≠ atP ps ((i + ps.length - 1) % ps.length))) && (List.range i).all fun j =>
    match (edgesF ps)[i]?, (edgesF ps)[j]? with
    | some e, some f => decide (meetF e f = some (decide (i - j = 1 ∨ i - j = ps.length - 1)))
    | _, _ => false
def sizeF (ps : List Pt) : Int := (List.range ps.length).foldl (fun s i => s + (atP ps ((i + ps.length - 1) % ps.length)).1 * (atP ps i).2 - (atP ps ((i + ps.length - 1) % ps.length)).2 * (atP ps i).1) 0
structure RingOk (ps : List Pt) : Prop where
  n3 : 3 ≤ ps.length
  n40 : ps.length ≤ 40
  pts : ∀ p ∈ ps, PtOk p
  simple : simpleB ps = true
  big : 0 < sizeF ps
  low : ∀ i, 0 < i → i < ps.length → ltP (atP ps 0) (atP ps i) = true
structure LineOk (ps : List Pt) : Prop where
  n2 : 2 ≤ ps.length
  n40 : ps.length ≤ 40
  pts : ∀ p ∈ ps, PtOk p
  step : ∀ i, i + 1 < ps.length → atP ps i ≠ atP ps (i + 1)
def ShOk : Sh → Prop
  | .pt p => PtOk p
  | .ln ps => LineOk ps
  | .ar rs => 1 ≤ rs.length ∧ rs.length ≤ 6 ∧ ∀ r ∈ rs, RingOk r
abbrev lettersL : Str := "abcdefghijklmnopqrstuvwxyz"
abbrev digitsL : Str := "0123456789"
structure NameOk (s : Str) : Prop where
  n1 : 1 ≤ s.length
  n12 : s.length ≤ 12
  hd : ∃ c, s.cps.toList[0]? = some c ∧ c ∈ lettersL.cps.toList
  all : ∀ c ∈ s.cps.toList, c ∈ lettersL.cps.toList ∨ c ∈ digitsL.cps.toList
structure ThOk (t : Th) : Prop where
  nm : NameOk t.nm
  kd : NameOk t.kd
  sh : ShOk t.sh
structure MapOk (ts : List Th) : Prop where
  n : ts.length ≤ 60
  each : ∀ t ∈ ts, ThOk t
  nd : (ts.map Th.nm).Nodup
  inc : ∀ (i : Nat) (a b : Th), ts[i]? = some a → ts[i + 1]? = some b → a.nm.cps.toList < b.nm.cps.toList
def LkOk : Lk → Prop
  | .fill c => 1 ≤ c ∧ c ≤ 63
  | .stroke c s => (1 ≤ c ∧ c ≤ 63) ∧ 1 ≤ s ∧ s ≤ 16
  | .dot c s => (1 ≤ c ∧ c ≤ 63) ∧ 1 ≤ s ∧ s ≤ 16
structure RuOk (r : Ru) : Prop where
  kd : r.kd = "" ∨ NameOk r.kd
  lo : 0 ≤ r.lo
  le : r.lo ≤ r.hi
  hi : r.hi ≤ 6
  od : -8 ≤ r.od ∧ r.od ≤ 8
  lk : LkOk r.lk
structure StyOk (rs : List Ru) : Prop where
  n : rs.length ≤ 12
  each : ∀ r ∈ rs, RuOk r
def colF : Lk → Int
  | .fill c => c
  | .stroke c _ => c
  | .dot c _ => c
def ScOk (s : Int) : Prop := 0 ≤ s ∧ s ≤ 6
def unitF (s : Int) : Int := unitsL.getD s.toNat 1
/-! ### which rules apply -/
def fitF : Lk → Sh → Bool
  | .fill _, .ar _ => true
  | .stroke _ _, .ln _ => true
  | .stroke _ _, .ar _ => true
  | .dot _ _, .pt _ => true
  | _, _ => false
def appB (r : Ru) (t : Th) (sc : Int) : Bool := (decide (r.kd = "" ∨ r.kd = t.kd)) && (decide (r.lo ≤ sc) && decide (sc ≤ r.hi)) && fitF r.lk t.sh
abbrev Mk3 := Int × Nat × Str
def ruAt (rs : List Ru) (i : Nat) : Ru := rs.getD i ⟨"", 0, 0, 0, .fill 0⟩
def appL (rs : List Ru) (t : Th) (sc : Int) : List Nat := (List.range rs.length).filter fun i => appB (ruAt rs i) t sc
def marksTh (rs : List Ru) (t : Th) (sc : Int) : List Mk3 := (appL rs t sc).map fun i => ((ruAt rs i).od, i, t.nm)
def marks0 (ts : List Th) (rs : List Ru) (sc : Int) : List Mk3 := ts.flatMap fun t => marksTh rs t sc
def dMk (m : Mk3) : D := .tup [.int m.1, .int (m.2.1 : Nat), .str m.2.2]
def leMk (a b : Mk3) : Bool := PySem.W.dataLe false (fun m => (dMk m).py) a b
def marksF (ts : List Th) (rs : List Ru) (sc : Int) : List Mk3 := (marks0 ts rs sc).mergeSort (PySem.W.dataLe false fun m => (dMk m).py)
/-! ### what covers -/
def dbl (p : Pt) : Pt := (2 * p.1, 2 * p.2)
/-- the edges of a closed ring, of an open way, doubled -/
def waysF (ps : List Pt) (closed : Bool) : List (Pt × Pt) :=
  let rows := ps.map dbl ++ (if closed = true then [dbl (atP ps 0)] else [])
  rows.zip (rows.drop 1)
def wayEdges : Sh → List (Pt × Pt)
  | .pt _ => []
  | .ln ps => waysF ps false
  | .ar rs => rs.flatMap fun r => waysF r true
def eastF (c : Pt) (e : Pt × Pt) : Bool :=
  let lo := if e.1.2 > e.2.2 then e.2 else e.1
  let hi := if e.1.2 > e.2.2 then e.1 else e.2
  if lo.2 ≤ c.2 ∧ c.2 < hi.2 then decide (c.1 * (hi.2 - lo.2) < lo.1 * (hi.2 - lo.2) + (hi.1 - lo.1) * (c.2 - lo.2)) else false
def nearF (c : Pt) (e : Pt × Pt) (sq : Int) : Bool :=
  let ac := e.2.1 - e.1.1
  let up := e.2.2 - e.1.2
  let dx := c.1 - e.1.1
  let dy := c.2 - e.1.2
  let len := ac * ac + up * up
  let al := dx * ac + dy * up
  if al ≤ 0 then decide (dx * dx + dy * dy ≤ sq)
  else if len ≤ al then decide ((dx - ac) * (dx - ac) + (dy - up) * (dy - up) ≤ sq)
  else decide ((dx * up - dy * ac) * (dx * up - dy * ac) ≤ sq * len)
def sqF (lk : Lk) (sc : Int) : Int := match lk with
  | .fill _ => 0
  | .stroke _ s => (unitF sc * s) * (unitF sc * s)
  | .dot _ s => (2 * unitF sc * s) * (2 * unitF sc * s)
def ptF (lk : Lk) (sh : Sh) : Pt := match lk, sh with
  | .dot _ _, .pt p => dbl p
  | _, _ => (0, 0)
def edF (lk : Lk) (sh : Sh) : List (Pt × Pt) := match lk with
  | .dot _ _ => []
  | _ => wayEdges sh
def covF (lk : Lk) (sh : Sh) (sc : Int) (c : Pt) : Bool := match lk with
  | .fill _ => decide (((wayEdges sh).filter fun e => eastF c e).length % 2 = 1)
  | .stroke _ _ => (wayEdges sh).any fun e => nearF c e (sqF lk sc)
  | .dot _ _ => decide ((c.1 - (ptF lk sh).1) * (c.1 - (ptF lk sh).1) + (c.2 - (ptF lk sh).2) * (c.2 - (ptF lk sh).2) ≤ sqF lk sc)
/-- a dict filled turn by turn: the newest first -/
def kfR {β : Type} (key : Nat → Str) (val : Nat → β) : Nat → List (Str × β)
  | 0 => []
  | i + 1 => (key i, val i) :: kfR key val i
def thAt (ts : List Th) (i : Nat) : Th := ts.getD i ⟨"", "", .pt (0, 0)⟩
/-- the newest thing of the name -/
def shOf (ts : List Th) (n : Str) : Sh := ((kfR (fun i => (thAt ts i).nm) (fun i => (thAt ts i).sh) ts.length).lookup n).getD (.pt (0, 0))
def lkAt (rs : List Ru) (i : Nat) : Lk := (ruAt rs i).lk
def ctrF (sc px py : Int) : Pt := (unitF sc * (2 * px + 1), unitF sc * (2 * py + 1))
/-- the colour of a pixel: of the last mark that covers its centre -/
def pixF (ts : List Th) (rs : List Ru) (sc px py : Int) : Int :=
  match (marksF ts rs sc).reverse.find? fun m => covF (lkAt rs m.2.1) (shOf ts m.2.2) sc (ctrF sc px py) with
  | some m => colF (lkAt rs m.2.1)
  | none => 0
def picF (ts : List Th) (rs : List Ru) (sc left low : Int) (w h : Nat) : List (List Int) :=
  (List.range h).map fun i => (List.range w).map fun j => pixF ts rs sc (left + (j : Nat)) (low + (h : Nat) - 1 - (i : Nat))
def dPic (rows : List (List Int)) : D := .tup (rows.map fun r => .tup (r.map D.int))
end TA

/-! The defs, 1: small ones. -/
namespace TA
open PySem L2
theorem kit_ii : kitB "int" "int" = some true := by decide +kernel
theorem kit_ib : kitB "int" "bool" = some false := by decide +kernel
theorem kit_tt : kitB "tuple" "tuple" = some true := by decide +kernel
theorem kit_ss : kitB "str" "str" = some true := by decide +kernel
theorem kit_ll : kitB "list" "list" = some true := by decide +kernel
abbrev fin (d : D) : Post := ⟨fun _ _ => d = .non, fun d' _ => d' = d, fun _ _ => False, fun _ _ => False⟩
theorem spD_len {K : PySem.W.Frag} {C : Addr} {R : List D → D → Prop} {n : Nat} (h : ∀ ds d, R ds d → ds.length = n) : ∀ vs H Q E, spD K C R vs H Q E → vs.length = n := fun vs H Q E ⟨G, ds, d, _, r, hR, _⟩ => by
  rw [r.len]
  exact h ds d hR
section
variable {P : Program} {w : World} {K : PySem.W.Frag} {mg : Str → Option Value} {base : Heap} {Z : Cst} {C : Addr} {de : List Sl} {om : Om}
/-! is_whole -/
def R_is_whole (ds : List D) (d : D) : Prop := ∃ i : Int, ds = [.int i] ∧ d = .bl true
theorem sd_is_whole {i : Int} : SD K C (t_is_whole K Z) [.d (.int i)] [] (fin (.bl true)) :=
  sd_ret (ed_and (ed_cb (ad_cons (ed_var .z) (ad_cons ed_ty ad_nil)) (cd_isi rfl kit_ii)) fun _ => ed_not (ed_cb (ad_cons (ed_var .z) (ad_cons ed_ty ad_nil)) (cd_isi rfl kit_ib))) rfl
theorem has_is_whole (Y : FX K mg Z) : Has P w K mg base 1 "is_whole" ["value"] (spD K Z.C R_is_whole) :=
  ok_is_whole Y (spD_len fun ds d ⟨i, e, _⟩ => by rw [e]; rfl) fun vs H Q E h => fn_pure (fun ds d ⟨i, e, _⟩ => by rw [e]; exact Nat.le_of_ble_eq_true rfl) (fun ds d ⟨i, e, e2⟩ => by
    subst e e2
    exact sd_is_whole) vs H Q E h
/-! turned -/
def R_turned (ds : List D) (d : D) : Prop := ∃ a b c : Pt, PtOk a ∧ PtOk b ∧ PtOk c ∧ ds = [dP a, dP b, dP c] ∧ d = .int (turnF a b c)
theorem sd_turned {a b c : Pt} (ha : PtOk a) (hb : PtOk b) (hc : PtOk c) : SD K C (t_turned K Z) [.d (dP a), .d (dP b), .d (dP c)] [] (fin (.int (turnF a b c))) := by
  obtain ⟨⟨_, _⟩, _, _⟩ := ha
  obtain ⟨⟨_, _⟩, _, _⟩ := hb
  obtain ⟨⟨_, _⟩, _, _⟩ := hc
  refine sd_ret (ed_op (ed_op (ed_op (ed_op (ed_var (.s .z)) ed_int (od_ixT ix0)) (ed_op (ed_var .z) ed_int (od_ixT ix0)) od_sub) (ed_op (ed_op (ed_var (.s (.s .z))) ed_int (od_ixT ix1)) (ed_op (ed_var .z) ed_int (od_ixT ix1)) od_sub) (od_mul (CMul.l ?_)))
    (ed_op (ed_op (ed_op (ed_var (.s .z)) ed_int (od_ixT ix1)) (ed_op (ed_var .z) ed_int (od_ixT ix1)) od_sub) (ed_op (ed_op (ed_var (.s (.s .z))) ed_int (od_ixT ix0)) (ed_op (ed_var .z) ed_int (od_ixT ix0)) od_sub) (od_mul (CMul.l ?_))) od_sub) rfl
  · omega
  · omega
theorem has_turned (Y : FX K mg Z) : Has P w K mg base 1 "turned" ["a", "b", "c"] (spD K Z.C R_turned) :=
  ok_turned Y (spD_len fun ds d ⟨a, b, c, _, _, _, e, _⟩ => by rw [e]; rfl) fun vs H Q E h => fn_pure (fun ds d ⟨a, b, c, _, _, _, e, _⟩ => by rw [e]; exact Nat.le_of_ble_eq_true rfl) (fun ds d ⟨a, b, c, ha, hb, hc, e, e2⟩ => by
    subst e e2
    exact sd_turned ha hb hc) vs H Q E h
end
end TA

/-! The defs, 2: points, edges, meet. -/
namespace TA
open PySem L2
section
variable {P : Program} {w : World} {K : PySem.W.Frag} {mg : Str → Option Value} {base : Heap} {Z : Cst} {C : Addr} {de : List Sl} {om : Om}
theorem le_pow (n : Nat) (h : n.ble 50000 = true) : n ≤ 50000 := Nat.le_of_ble_eq_true h
/-! is_point -/
def R_is_point (ds : List D) (d : D) : Prop := ∃ p : Pt, PtOk p ∧ ds = [dP p] ∧ d = .bl true
theorem sd_is_point {p : Pt} (h : PtOk p) : SD K C (t_is_point K Z (spD K C R_is_whole)) [.d (dP p), .no] [] (fin (.bl true)) := by
  refine sd_seq (sd_ifF (td_or2 (td_n (td_B (ed_isi (ed_var .z) rfl kit_tt))) (td_neF (ed_lenT (ed_var .z)) ed_int rfl)) (sd_next ?_))
  refine sd_ret (ed_allT (il_tup (ed_var .z)) (le_pow 2 rfl) fun i d hi => ?_) rfl
  have hd : ∃ n : Int, d = .int n ∧ -1000 ≤ n ∧ n ≤ 1000 := by
    obtain ⟨⟨a1, a2⟩, a3, a4⟩ := h
    match i, hi with
    | 0, hi => exact ⟨p.1, (Option.some.inj hi).symm, a1, a2⟩
    | 1, hi => exact ⟨p.2, (Option.some.inj hi).symm, a3, a4⟩
    | _ + 2, hi => simp at hi
  obtain ⟨n, rfl, h1, h2⟩ := hd
  refine ⟨_, _, gd_name (.s .z), mem1 (by simp), ed_and2 (ed_call (ad_cons (ed_var (.s .z)) ad_nil) ⟨n, rfl, rfl⟩) (ed_is (ed_op (ed_cb (ad_cons (ed_var (.s .z)) ad_nil) cd_abs) ed_int od_le) ?_)⟩
  rw [show (decide ((if n < 0 then -n else n) ≤ 1000)) = true from decide_eq_true (by split <;> omega)]
theorem has_is_point (Y : FX K mg Z) : Has P w K mg base 2 "is_point" ["value"] (spD K Z.C R_is_point) :=
  ok_is_point Y (has_is_whole Y) (spD_len fun ds d ⟨p, _, e, _⟩ => by rw [e]; rfl) fun vs H Q E h => fn_pure (fun ds d ⟨p, _, e, _⟩ => by rw [e]; exact Nat.le_of_ble_eq_true rfl) (fun ds d ⟨p, hp, e, e2⟩ => by
    subst e e2
    exact sd_is_point hp) vs H Q E h
/-! edge_of -/
def R_edge_of (ds : List D) (d : D) : Prop := ∃ p q : Pt, ds = [dP p, dP q] ∧ d = dE (edgeF p q)
theorem sd_edge_of {p q : Pt} : SD K C (t_edge_of K Z) [.d (dP p), .d (dP q)] [] (fin (dE (edgeF p q))) := by
  refine sd_ret (d := dE (edgeF p q)) (om1 := []) (ed_if (b := ltP p q) (td_test (ed_op (ed_var .z) (ed_var (.s .z)) od_ltP)) (fun e => ?_) fun e => ?_) rfl
  · rw [edgeF, if_pos e]
    exact ed_tup (ad_cons (ed_var .z) (ad_cons (ed_var (.s .z)) ad_nil)) (Nat.le_of_ble_eq_true rfl)
  · rw [edgeF, if_neg (by rw [e]; exact Bool.false_ne_true)]
    exact ed_tup (ad_cons (ed_var (.s .z)) (ad_cons (ed_var .z) ad_nil)) (Nat.le_of_ble_eq_true rfl)
theorem has_edge_of (Y : FX K mg Z) : Has P w K mg base 1 "edge_of" ["p", "q"] (spD K Z.C R_edge_of) :=
  ok_edge_of Y (spD_len fun ds d ⟨p, q, e, _⟩ => by rw [e]; rfl) fun vs H Q E h => fn_pure (fun ds d ⟨p, q, e, _⟩ => by rw [e]; exact Nat.le_of_ble_eq_true rfl) (fun ds d ⟨p, q, e, e2⟩ => by
    subst e e2
    exact sd_edge_of) vs H Q E h
/-! are_beside -/
def R_are_beside (ds : List D) (d : D) : Prop := ∃ a b : Int, ds = [.int a, .int b] ∧ d = .bl (besF a b)
theorem sd_are_beside {a b : Int} : SD K C (t_are_beside K Z) [.d (.int a), .d (.int b)] [] (fin (.bl (besF a b))) :=
  sd_ret (ed_or (ed_and (ed_op (ed_var .z) ed_int od_gt) fun _ => ed_op (ed_var (.s .z)) ed_int od_gt) fun _ => ed_and (ed_op (ed_var .z) ed_int od_lt) fun _ => ed_op (ed_var (.s .z)) ed_int od_lt) rfl
theorem has_are_beside (Y : FX K mg Z) : Has P w K mg base 1 "are_beside" ["one", "other"] (spD K Z.C R_are_beside) :=
  ok_are_beside Y (spD_len fun ds d ⟨p, q, e, _⟩ => by rw [e]; rfl) fun vs H Q E h => fn_pure (fun ds d ⟨p, q, e, _⟩ => by rw [e]; exact Nat.le_of_ble_eq_true rfl) (fun ds d ⟨p, q, e, e2⟩ => by
    subst e e2
    exact sd_are_beside) vs H Q E h
/-! meet: none or touch -/
def sidesF (e f : Pt × Pt) : List (Int × Pt) := [(turnF e.1 e.2 f.1, f.1), (turnF e.1 e.2 f.2, f.2), (turnF f.1 f.2 e.1, e.1), (turnF f.1 f.2 e.2, e.2)]
def touchP (e f : Pt × Pt) : Pt := (((sidesF e f).find? fun q => decide (q.1 = 0)).map Prod.snd).getD (0, 0)
def dMeet (e f : Pt × Pt) (b : Bool) : D := if b = true then .tup [.str "touch", dP (touchP e f)] else .tup [.str "none"]
def R_meet (ds : List D) (d : D) : Prop := ∃ (e f : Pt × Pt) (b : Bool), (PtOk e.1 ∧ PtOk e.2) ∧ (PtOk f.1 ∧ PtOk f.2) ∧ meetF e f = some b ∧ ds = [dE e, dE f] ∧ d = dMeet e f b
theorem sd_meet {e f : Pt × Pt} {b : Bool} (he : PtOk e.1 ∧ PtOk e.2) (hf : PtOk f.1 ∧ PtOk f.2) (hm : meetF e f = some b) :
    SD K C (t_meet K Z (spD K C R_turned) (spD K C R_are_beside)) [.d (dE e), .d (dE f), .no, .no, .no, .no, .no, .no, .no, .no, .no, .no, .no, .no] [] (fin (dMeet e f b)) := by
  refine sd_seq (sd_asgG (ed_var .z) (gd_tup (gds_cons (gd_name (.s (.s .z))) (gds_cons (gd_name (.s (.s (.s .z)))) gds_nil)) rfl) ?_)
  refine sd_seq (sd_asgG (ed_var (.s .z)) (gd_tup (gds_cons (gd_name (.s (.s (.s (.s .z))))) (gds_cons (gd_name (.s (.s (.s (.s (.s .z)))))) gds_nil)) rfl) ?_)
  refine sd_seq (sd_asg (ed_call (ad_cons (ed_var (.s (.s .z))) (ad_cons (ed_var (.s (.s (.s .z)))) (ad_cons (ed_var (.s (.s (.s (.s .z))))) ad_nil))) ⟨e.1, e.2, f.1, he.1, he.2, hf.1, rfl, rfl⟩) (.s (.s (.s (.s (.s (.s .z)))))) ?_)
  refine sd_seq (sd_asg (ed_call (ad_cons (ed_var (.s (.s .z))) (ad_cons (ed_var (.s (.s (.s .z)))) (ad_cons (ed_var (.s (.s (.s (.s (.s .z)))))) ad_nil))) ⟨e.1, e.2, f.2, he.1, he.2, hf.2, rfl, rfl⟩) (.s (.s (.s (.s (.s (.s (.s .z))))))) ?_)
  unfold meetF at hm
  simp only at hm
  by_cases h0 : turnF e.1 e.2 f.1 = 0 ∧ turnF e.1 e.2 f.2 = 0
  · rw [if_pos h0] at hm
    cases hm
  rw [if_neg h0] at hm
  refine sd_seq (sd_ifF (td_is (td_and (td_test (ed_op (ed_var (.s (.s (.s (.s (.s (.s .z))))))) ed_int od_eqI)) fun _ => td_test (ed_op (ed_var (.s (.s (.s (.s (.s (.s (.s .z)))))))) ed_int od_eqI)) ?_) (sd_next ?_))
  · rw [Bool.and_eq_false_iff]
    by_cases h1 : turnF e.1 e.2 f.1 = 0
    · exact .inr (decide_eq_false fun z => h0 ⟨h1, z⟩)
    · exact .inl (decide_eq_false h1)
  refine sd_seq (sd_asg (ed_call (ad_cons (ed_var (.s (.s (.s (.s .z))))) (ad_cons (ed_var (.s (.s (.s (.s (.s .z)))))) (ad_cons (ed_var (.s (.s .z))) ad_nil))) ⟨f.1, f.2, e.1, hf.1, hf.2, he.1, rfl, rfl⟩) (.s (.s (.s (.s (.s (.s (.s (.s .z)))))))) ?_)
  refine sd_seq (sd_asg (ed_call (ad_cons (ed_var (.s (.s (.s (.s .z))))) (ad_cons (ed_var (.s (.s (.s (.s (.s .z)))))) (ad_cons (ed_var (.s (.s (.s .z)))) ad_nil))) ⟨f.1, f.2, e.2, hf.1, hf.2, he.2, rfl, rfl⟩) (.s (.s (.s (.s (.s (.s (.s (.s (.s .z))))))))) ?_)
  refine sd_seq (sd_if (b := besF (turnF e.1 e.2 f.1) (turnF e.1 e.2 f.2) || besF (turnF f.1 f.2 e.1) (turnF f.1 f.2 e.2)) (td_or (td_B (ed_call (ad_cons (ed_var (.s (.s (.s (.s (.s (.s .z))))))) (ad_cons (ed_var (.s (.s (.s (.s (.s (.s (.s .z)))))))) ad_nil)) ⟨_, _, rfl, rfl⟩))
    fun _ => td_B (ed_call (ad_cons (ed_var (.s (.s (.s (.s (.s (.s (.s (.s .z))))))))) (ad_cons (ed_var (.s (.s (.s (.s (.s (.s (.s (.s (.s .z)))))))))) ad_nil)) ⟨_, _, rfl, rfl⟩)) (fun hb => ?_) fun hb => sd_next ?_)
  · rw [if_pos (by rcases Bool.or_eq_true_iff.mp hb with z | z; exact .inl z; exact .inr z)] at hm
    cases hm
    exact sd_ret (ed_tup (ad_cons ed_str ad_nil) (Nat.le_of_ble_eq_true rfl)) rfl
  · have hb2 : ¬ (besF (turnF e.1 e.2 f.1) (turnF e.1 e.2 f.2) = true ∨ besF (turnF f.1 f.2 e.1) (turnF f.1 f.2 e.2) = true) := fun z => by
      have : (besF (turnF e.1 e.2 f.1) (turnF e.1 e.2 f.2) || besF (turnF f.1 f.2 e.1) (turnF f.1 f.2 e.2)) = true := Bool.or_eq_true_iff.mpr z
      rw [hb] at this
      cases this
    rw [if_neg hb2] at hm
    by_cases h4 : turnF e.1 e.2 f.1 = 0 ∨ turnF e.1 e.2 f.2 = 0 ∨ turnF f.1 f.2 e.1 = 0 ∨ turnF f.1 f.2 e.2 = 0
    · rw [if_pos h4] at hm
      cases hm
      have hl : ∃ q ∈ sidesF e f, q.1 = 0 := by
        rcases h4 with z | z | z | z
        · exact ⟨(turnF e.1 e.2 f.1, f.1), by simp [sidesF], z⟩
        · exact ⟨(turnF e.1 e.2 f.2, f.2), by simp [sidesF], z⟩
        · exact ⟨(turnF f.1 f.2 e.1, e.1), by simp [sidesF], z⟩
        · exact ⟨(turnF f.1 f.2 e.2, e.2), by simp [sidesF], z⟩
      refine sd_seq (sd_forP (ds := (sidesF e f).map fun q => .tup [.int q.1, dP q.2]) (il_tup (ed_tup (ad_cons (ed_tup (ad_cons (ed_var (.s (.s (.s (.s (.s (.s .z))))))) (ad_cons (ed_var (.s (.s (.s (.s .z))))) ad_nil)) (Nat.le_of_ble_eq_true rfl))
        (ad_cons (ed_tup (ad_cons (ed_var (.s (.s (.s (.s (.s (.s (.s .z)))))))) (ad_cons (ed_var (.s (.s (.s (.s (.s .z)))))) ad_nil)) (Nat.le_of_ble_eq_true rfl))
        (ad_cons (ed_tup (ad_cons (ed_var (.s (.s (.s (.s (.s (.s (.s (.s .z))))))))) (ad_cons (ed_var (.s (.s .z))) ad_nil)) (Nat.le_of_ble_eq_true rfl))
        (ad_cons (ed_tup (ad_cons (ed_var (.s (.s (.s (.s (.s (.s (.s (.s (.s .z)))))))))) (ad_cons (ed_var (.s (.s (.s .z)))) ad_nil)) (Nat.le_of_ble_eq_true rfl)) ad_nil)))) (Nat.le_of_ble_eq_true rfl)))
        (fun i => ∀ (j : Nat) (q : Int × Pt), j < i → (sidesF e f)[j]? = some q → q.1 ≠ 0) (fun i => [.no, .no, .no, .no, .no, .no, .no, .no, .no, .no, .no, .no, .no, .no]) (fun _ => []) (by repeat constructor) (List.Sublist.refl _) (fun j q hj => absurd hj (Nat.not_lt_zero _)) (fun i d hi ki => ?_) (fun kn => ?_))
      · obtain ⟨q, hq, rfl, _⟩ := map_get hi
        refine ⟨_, _, gd_tup (gds_cons (gd_name (.s (.s (.s (.s (.s (.s (.s (.s (.s (.s .z))))))))))) (gds_cons (gd_name (.s (.s (.s (.s (.s (.s (.s (.s (.s (.s (.s .z)))))))))))) gds_nil)) rfl, ?_⟩
        refine sd_if (td_test (ed_op (ed_var (.s (.s (.s (.s (.s (.s (.s (.s (.s (.s .z))))))))))) ed_int od_eqI)) (fun hz => ?_) fun hz => ?_
        · have z : q.1 = 0 := of_decide_eq_true hz
          refine sd_ret (ed_tup (ad_cons ed_str (ad_cons (ed_var (.s (.s (.s (.s (.s (.s (.s (.s (.s (.s (.s .z)))))))))))) ad_nil)) (Nat.le_of_ble_eq_true rfl)) ?_
          have hfind : (sidesF e f).find? (fun q => decide (q.1 = 0)) = some q := by
            obtain ⟨hil, hie⟩ := List.getElem?_eq_some_iff.mp hq
            refine List.find?_eq_some_iff_getElem.mpr ⟨decide_eq_true z, i, hil, hie, fun j hj => ?_⟩
            have hjl : j < (sidesF e f).length := Nat.lt_trans hj hil
            rw [decide_eq_false (ki j _ hj (List.getElem?_eq_getElem hjl))]
            rfl
          show D.tup [.str "touch", dP q.2] = dMeet e f true
          unfold dMeet touchP
          rw [if_pos rfl, hfind]
          rfl
        · have z : q.1 ≠ 0 := of_decide_eq_false hz
          refine sd_next ⟨fun j q' hj hq' => ?_, by repeat constructor, List.Sublist.refl _⟩
          rcases Nat.lt_or_ge j i with y | y
          · exact ki j q' y hq'
          · have ej : j = i := by omega
            subst ej
            rw [hq] at hq'
            cases hq'
            exact z
      · exfalso
        obtain ⟨q, hq, z⟩ := hl
        obtain ⟨j, hj⟩ := List.mem_iff_getElem?.mp hq
        refine kn j q ?_ hj z
        rw [List.length_map]
        exact (List.getElem?_eq_some_iff.mp hj).1
    · rw [if_neg h4] at hm
      cases hm
theorem has_meet (Y : FX K mg Z) : Has P w K mg base 2 "meet" ["first", "second"] (spD K Z.C R_meet) :=
  ok_meet Y (has_turned Y) (has_are_beside Y) (spD_len fun ds d ⟨_, _, _, _, _, _, e, _⟩ => by rw [e]; rfl) fun vs H Q E h => fn_pure (fun ds d ⟨_, _, _, _, _, _, e, _⟩ => by rw [e]; exact Nat.le_of_ble_eq_true rfl) (fun ds d ⟨p, q, b, h1, h2, h3, e, e2⟩ => by
    subst e e2
    exact sd_meet h1 h2 h3) vs H Q E h
end
end TA

/-! The defs, 3: rings. -/
namespace TA
open PySem L2
section
variable {P : Program} {w : World} {K : PySem.W.Frag} {mg : Str → Option Value} {base : Heap} {Z : Cst} {C : Addr} {de : List Sl} {om : Om}
theorem atP_get {ps : List Pt} {i : Nat} (h : i < ps.length) : ps[i]? = some (atP ps i) := by
  unfold atP
  rw [List.getD_eq_getElem?_getD, List.getElem?_eq_getElem h]
  rfl
theorem atP_mem {ps : List Pt} {i : Nat} (h : i < ps.length) : atP ps i ∈ ps := List.mem_of_getElem? (atP_get h)
theorem dR_get {ps : List Pt} {i : Nat} (h : i < ps.length) : (ps.map dP)[i]? = some (dP (atP ps i)) := by
  rw [List.getElem?_map, atP_get h]
  rfl
theorem at_z {ps : List Pt} {i : Nat} {z : Int} (h : i < ps.length) (e : z = (i : Int)) : atI (ps.map dP) z = some (dP (atP ps i)) := atI_of e (dR_get h)
theorem at_prev {ps : List Pt} {i : Nat} {z : Int} (h : i < ps.length) (e : z = (i : Int) - 1) : atI (ps.map dP) z = some (dP (atP ps ((i + ps.length - 1) % ps.length))) := by
  by_cases h0 : i = 0
  · subst h0
    have e1 : (0 + ps.length - 1) % ps.length = ps.length - 1 := by rw [Nat.mod_eq_of_lt (by omega)]; omega
    have ez : z = -1 := by omega
    rw [e1, ez]
    refine atI_neg1 ?_
    rw [List.length_map]
    exact dR_get (by omega)
  · have e1 : (i + ps.length - 1) % ps.length = i - 1 := by
      rw [show i + ps.length - 1 = (i - 1) + ps.length by omega, Nat.add_mod_right, Nat.mod_eq_of_lt (by omega)]
    rw [e1]
    exact at_z (by omega) (by omega)
/-! is_line -/
def R_is_line (ds : List D) (d : D) : Prop := ∃ ps, LineOk ps ∧ ds = [dR ps] ∧ d = .bl true
theorem all_points {ps : List Pt} {om : Om} {s : Nat} {l : List Sl} (h : ∀ p ∈ ps, PtOk p) (hl : ps.length ≤ 40) {te : TE} {wi : TI} {g : TG} {vs : List Nat} {de2 : Pt → List Sl} (hi : IL K C wi de om (ps.map dP) om)
    (ht : ∀ p, PtOk p → ∃ ts, GD K C g (dP p) (wipD de vs) (de2 p) ts ∧ (∀ j ∈ ts, j ∈ vs) ∧ ED K C te (de2 p) om (.bl true) om) : ED K C (tCB (rAll K) (tCons (tLc wi g tYes te vs) tNil)) de om (.bl true) om :=
  ed_allT hi (by rw [List.length_map]; omega) fun i d hd => by
    obtain ⟨p, _, rfl, hp⟩ := map_get hd
    obtain ⟨ts, h1, h2, h3⟩ := ht p (h p hp)
    exact ⟨_, ts, h1, h2, h3⟩
theorem sd_is_line {ps : List Pt} (h : LineOk ps) : SD K C (t_is_line K Z (spD K C R_is_point)) [.d (dR ps), .no, .no] [] (fin (.bl true)) := by
  have h2 := h.n2
  have h40 := h.n40
  have hlen : (((ps.map dP).length : Nat) : Int) = ps.length := by rw [List.length_map]
  refine sd_seq (sd_ifF (td_or2 (td_n (td_B (ed_isi v0 rfl kit_tt))) (td_or2 (td_n (td_btw ed_int (ed_lenT v0) ed_int (by rw [hlen]; omega)))
    (td_n (td_B (ed_allT (il_tup v0) (by rw [List.length_map]; omega) fun i d hd => by
      obtain ⟨p, _, rfl, hp⟩ := map_get hd
      exact ⟨_, _, gd_name w2, mem1 (by simp), ed_call (ad_cons v2 ad_nil) ⟨p, h.pts p hp, rfl, rfl⟩⟩))))) (sd_next ?_))
  refine sd_ret (ed_allT (il_r1 (ad_cons (ed_op (ed_lenT v0) ed_int od_sub) ad_nil) (by rw [hlen]; omega) (by rw [hlen]; omega)) (by rw [rngD_len, hlen]; omega) fun i d hd => ?_) rfl
  obtain ⟨hi, rfl⟩ := rngD_at hd
  rw [hlen] at hi
  refine ⟨_, _, gd_name w1, mem1 (by simp), ed_is (ed_op (ed_op v0 v1 (od_ixT (at_z (i := i) (by omega) (by omega)))) (ed_op v0 (ed_op v1 ed_int od_add) (od_ixT (at_z (i := i + 1) (by omega) (by omega)))) od_neP) ?_⟩
  rw [decide_eq_false (h.step i (by omega))]
  rfl
theorem has_is_line (Y : FX K mg Z) : Has P w K mg base 3 "is_line" ["value"] (spD K Z.C R_is_line) :=
  have hR : ∀ ds d, R_is_line ds d → ds.length = 1 := fun ds d ⟨_, _, e, _⟩ => by rw [e]; rfl
  ok_is_line Y (has_is_point Y) (spD_len hR) (runP hR rfl fun ds d ⟨ps, h, e, e2⟩ => by
    subst e e2
    exact sd_is_line h)
/-! is_name -/
def R_is_name (ds : List D) (d : D) : Prop := ∃ s : Str, NameOk s ∧ ds = [.str s] ∧ d = .bl true
theorem sd_is_name {s : Str} (h : NameOk s) : SD K C (t_is_name K Z) [.d (.str s), .no] [] (fin (.bl true)) := by
  have h1 := h.n1
  have h12 := h.n12
  obtain ⟨c, hc, hm⟩ := h.hd
  refine sd_seq (sd_ifF (td_or2 (td_n (td_B (ed_isi v0 rfl kit_ss))) (td_or2 (td_n (td_btw ed_int (ed_lenS v0 (by omega)) ed_int (by omega)))
    (td_is (td_test (ed_op (ed_op v0 ed_int (od_ixS (by omega) (atI_of (j := 0) rfl hc))) ed_str od_ninS)) (by rw [decide_eq_true hm]; rfl)))) (sd_next ?_))
  have hsz : s.cps.toList.length = s.length := by rw [Array.length_toList]; rfl
  refine sd_ret (ed_allT (il_str v0) (by unfold sgnD; rw [List.length_map, hsz]; omega) fun i d hd => ?_) rfl
  obtain ⟨c, _, rfl, hc⟩ := map_get hd
  refine ⟨_, _, gd_name w1, mem1 (by simp), ed_is (ed_or (ed_op v1 ed_str od_inS) fun _ => ed_op v1 ed_str od_inS) ?_⟩
  rcases h.all c hc with z | z
  · rw [decide_eq_true z]
    rfl
  · rw [decide_eq_true z, Bool.or_true]
theorem has_is_name (Y : FX K mg Z) : Has P w K mg base 1 "is_name" ["value"] (spD K Z.C R_is_name) :=
  have hR : ∀ ds d, R_is_name ds d → ds.length = 1 := fun ds d ⟨_, _, e, _⟩ => by rw [e]; rfl
  ok_is_name Y (spD_len hR) (runP hR rfl fun ds d ⟨ps, h, e, e2⟩ => by
    subst e e2
    exact sd_is_name h)
/-! are_points -/
def R_are_points (ds : List D) (d : D) : Prop := ∃ (ps : List Pt) (lo hi : Int), (∀ p ∈ ps, PtOk p) ∧ ps.length ≤ 40 ∧ (lo ≤ ps.length ∧ (ps.length : Int) ≤ hi) ∧ ds = [dR ps, .int lo, .int hi] ∧ d = .bl true
theorem sd_are_points {ps : List Pt} {lo hi : Int} (h : ∀ p ∈ ps, PtOk p) (h40 : ps.length ≤ 40) (hb : lo ≤ ps.length ∧ (ps.length : Int) ≤ hi) : SD K C (t_are_points K Z (spD K C R_is_point)) [.d (dR ps), .d (.int lo), .d (.int hi), .no] [] (fin (.bl true)) := by
  refine sd_ret (ed_and2 (ed_isi v0 rfl kit_tt) (ed_and2 (ed_btw v1 (ed_lenT v0) v2 (by rw [List.length_map]; exact hb)) (ed_allT (il_tup v0) (by rw [List.length_map]; omega) fun i d hd => ?_))) rfl
  obtain ⟨p, _, rfl, hp⟩ := map_get hd
  exact ⟨_, _, gd_name w3, mem1 (by simp), ed_call (ad_cons v3 ad_nil) ⟨p, h p hp, rfl, rfl⟩⟩
theorem has_are_points (Y : FX K mg Z) : Has P w K mg base 3 "are_points" ["value", "low", "high"] (spD K Z.C R_are_points) :=
  have hR : ∀ ds d, R_are_points ds d → ds.length = 3 := fun ds d ⟨_, _, _, _, _, _, e, _⟩ => by rw [e]; rfl
  ok_are_points Y (has_is_point Y) (spD_len hR) (runP hR rfl fun ds d ⟨ps, lo, hi, h, h2, h3, e, e2⟩ => by
    subst e e2
    exact sd_are_points h h2 h3)
/-! around -/
def R_around (ds : List D) (d : D) : Prop := ∃ ps : List Pt, 1 ≤ ps.length ∧ ps.length ≤ 40 ∧ ds = [dR ps] ∧ d = .lst ((edgesF ps).map dE)
theorem sd_around {ps : List Pt} (h1 : 1 ≤ ps.length) (h40 : ps.length ≤ 40) : SD K C (t_around K Z (spD K C R_edge_of)) [.d (dR ps), .no] [] (fin (.lst ((edgesF ps).map dE))) := by
  have hlen : (((ps.map dP).length : Nat) : Int) = ps.length := by rw [List.length_map]
  have a := en_map (K := K) (C := C) (vs := [1]) (g := gName 1) (te := tCall (spD K C R_edge_of) [] E0 (tCons (tOp (rIxT K) (tVar 0) (tOp rSu (tVar 1) (tC (.int 1)))) (tCons (tOp (rIxT K) (tVar 0) (tVar 1)) tNil)))
    (il_r2 (K := K) (C := C) (de := [.d (dR ps), .no]) (om := []) (tr := tCons (tC (.int 1)) (tCons (tCB (rLenA K) (tCons (tVar 0) tNil)) tNil)) (lo := 1) (hi := ps.length) (ad_cons ed_int (ad_cons (ed_is (ed_lenT v0) (by rw [List.length_map])) ad_nil)) ⟨by omega, by omega, by omega, by omega⟩)
    (fun i => dE (edgeF (atP ps i) (atP ps (i + 1)))) (by rw [rngD_len]; omega) fun i d hd => by
      obtain ⟨hi, rfl⟩ := rngD_at hd
      exact ⟨_, _, gd_name w1, mem1 (by simp), ed_call (ad_cons (ed_op v0 (ed_op v1 ed_int od_sub) (od_ixT (at_z (i := i) (by omega) (by omega)))) (ad_cons (ed_op v0 v1 (od_ixT (at_z (i := i + 1) (by omega) (by omega)))) ad_nil)) ⟨_, _, rfl, rfl⟩⟩
  have b := ed_call (K := K) (C := C) (R := R_edge_of) (E := E0) (de := [.d (dR ps), .no]) (om := []) (tr := tCons (tOp (rIxT K) (tVar 0) (tUn (rU fun i => .int (-i)) (tC (.int 1)))) (tCons (tOp (rIxT K) (tVar 0) (tC (.int 0))) tNil))
    (ad_cons (ed_op v0 (ed_neg ed_int) (od_ixT (atI_neg1 (by rw [List.length_map]; exact dR_get (by omega))))) (ad_cons (ed_op v0 ed_int (od_ixT (at_z (i := 0) (by omega) rfl))) ad_nil)) ⟨_, _, rfl, rfl⟩
  rw [rngD_len] at a
  have e : ((ps.length : Int) - 1).toNat = ps.length - 1 := by omega
  rw [e] at a
  have q := ed_op (ed_frz a) (ed_frz (en_lst (ad_cons b ad_nil) (nle rfl))) (on_cat (by simp; omega))
  refine sd_ret (ed_is q ?_) rfl
  unfold edgesF
  rw [List.map_append, List.map_map]
  rfl
theorem has_around (Y : FX K mg Z) : Has P w K mg base 2 "around" ["points"] (spD K Z.C R_around) :=
  have hR : ∀ ds d, R_around ds d → ds.length = 1 := fun ds d ⟨_, _, _, e, _⟩ => by rw [e]; rfl
  ok_around Y (has_edge_of Y) (spD_len hR) (runP hR rfl fun ds d ⟨ps, h1, h2, e, e2⟩ => by
    subst e e2
    exact sd_around h1 h2)
end
end TA

/-! The defs, 4: goes_simply, size, is_ring, is_shape, is_thing, is_map. -/
namespace TA
open PySem L2
theorem edgesF_len {ps : List Pt} (h : 1 ≤ ps.length) : (edgesF ps).length = ps.length := by
  unfold edgesF
  simp
  omega
theorem edgeF_ok {p q : Pt} (h : PtOk p) (h' : PtOk q) : PtOk (edgeF p q).1 ∧ PtOk (edgeF p q).2 := by
  unfold edgeF
  split
  · exact ⟨h, h'⟩
  · exact ⟨h', h⟩
theorem edges_ok {ps : List Pt} (h1 : 1 ≤ ps.length) (h : ∀ p ∈ ps, PtOk p) : ∀ e ∈ edgesF ps, PtOk e.1 ∧ PtOk e.2 := by
  intro e he
  have ok : ∀ i, i < ps.length → PtOk (atP ps i) := fun i hi => h _ (List.mem_of_getElem? (by
    unfold atP
    rw [List.getD_eq_getElem?_getD, List.getElem?_eq_getElem hi]
    rfl))
  unfold edgesF at he
  rcases List.mem_append.mp he with z | z
  · obtain ⟨i, hi, rfl⟩ := List.mem_map.mp z
    have := List.mem_range.mp hi
    exact edgeF_ok (ok _ (by omega)) (ok _ (by omega))
  · rw [List.mem_singleton.mp z]
    exact edgeF_ok (ok _ (by omega)) (ok _ (by omega))
theorem simple_at {ps : List Pt} (h : simpleB ps = true) {i : Nat} (hi : i < ps.length) : atP ps i ≠ atP ps ((i + ps.length - 1) % ps.length) ∧ ∀ j, j < i → ∃ e f, (edgesF ps)[i]? = some e ∧ (edgesF ps)[j]? = some f ∧ meetF e f = some (decide (i - j = 1 ∨ i - j = ps.length - 1)) := by
  unfold simpleB at h
  have h1 := List.all_eq_true.mp h i (List.mem_range.mpr hi)
  obtain ⟨a, b⟩ := Bool.and_eq_true_iff.mp h1
  refine ⟨of_decide_eq_true a, fun j hj => ?_⟩
  have h2 := List.all_eq_true.mp b j (List.mem_range.mpr hj)
  split at h2
  · rename_i e f he hf
    exact ⟨e, f, he, hf, of_decide_eq_true h2⟩
  · cases h2
section
variable {P : Program} {w : World} {K : PySem.W.Frag} {mg : Str → Option Value} {base : Heap} {Z : Cst} {C : Addr} {de : List Sl} {om : Om}
/-! goes_simply -/
def R_goes_simply (ds : List D) (d : D) : Prop := ∃ ps : List Pt, 1 ≤ ps.length ∧ ps.length ≤ 40 ∧ (∀ p ∈ ps, PtOk p) ∧ simpleB ps = true ∧ ds = [dR ps] ∧ d = .bl true
theorem dMeet0 {e f : Pt × Pt} {b : Bool} : ∃ ds, dMeet e f b = .tup (.str (if b = true then "touch" else "none") :: ds) := by
  unfold dMeet
  cases b
  · exact ⟨_, rfl⟩
  · exact ⟨_, rfl⟩
theorem ed_told {te : TE} {e f : Pt × Pt} {b : Bool} (h : ED K C te de om (dMeet e f b) om) : ED K C (tOp (rIxT K) te (tC (.int 0))) de om (.str (if b = true then "touch" else "none")) om := by
  obtain ⟨ds, e⟩ := dMeet0 (e := e) (f := f) (b := b)
  rw [e] at h
  exact ed_op h ed_int (od_ixT ix0)
theorem sd_goes_simply {ps : List Pt} (h1 : 1 ≤ ps.length) (h40 : ps.length ≤ 40) (hp : ∀ p ∈ ps, PtOk p) (hs : simpleB ps = true) :
    SD K C (t_goes_simply K Z (spD K C R_around) (spD K C R_meet)) [.d (dR ps), .no, .no, .no, .no, .no] [] (fin (.bl true)) := by
  have hlen : (((ps.map dP).length : Nat) : Int) = ps.length := by rw [List.length_map]
  refine sd_seq (sd_asg (ed_lenT v0) w1 ?_)
  refine sd_seq (sd_ifF (td_B (ed_anyN (il_r1 (ad_cons v1 ad_nil) (by omega) (by omega)) (by rw [rngD_len]; omega) fun i d hd => ?_)) (sd_next ?_))
  · obtain ⟨hi, rfl⟩ := rngD_at hd
    refine ⟨_, _, gd_name w3, mem1 (by simp), ed_is (ed_op (ed_op v0 (ed_op v3 ed_int od_sub) (od_ixT (at_prev (i := i) (by omega) (by omega)))) (ed_op v0 v3 (od_ixT (at_z (i := i) (by omega) (by omega)))) od_eqP) ?_⟩
    rw [decide_eq_false fun z => (simple_at hs (i := i) (by omega)).1 z.symm]
  refine sd_seq (sd_asg (ed_call (ad_cons v0 ad_nil) ⟨ps, h1, h40, rfl, rfl⟩) w2 ?_)
  refine sd_seq (sd_for (il_r1 (ad_cons v1 ad_nil) (by omega) (by omega)) (fun _ => [.d (dR ps), .d (.int ((ps.map dP).length : Nat)), .d (.lst ((edgesF ps).map dE)), .no, .no, .no]) (fun _ => []) (by repeat constructor) (List.Sublist.refl _) (fun i d hd => ?_) (sd_ret ed_bl rfl))
  obtain ⟨hi, rfl⟩ := rngD_at hd
  have hi2 : i < ps.length := by omega
  refine ⟨_, _, gd_name w3, ?_⟩
  refine sd_for (il_r1 (ad_cons v3 ad_nil) (by omega) (by omega)) (fun _ => [.d (dR ps), .d (.int ((ps.map dP).length : Nat)), .d (.lst ((edgesF ps).map dE)), .d (.int (0 + (i : Nat))), .no, .no]) (fun _ => []) (by repeat constructor) (List.Sublist.refl _) (fun j d hd => ?_) ⟨by repeat constructor, List.Sublist.refl _⟩
  obtain ⟨hj, rfl⟩ := rngD_at hd
  have hj2 : j < i := by omega
  obtain ⟨e, f, he, hf, hm⟩ := (simple_at hs hi2).2 j hj2
  have hE : ((edgesF ps).map dE)[i]? = some (dE e) := by rw [List.getElem?_map, he]; rfl
  have hF : ((edgesF ps).map dE)[j]? = some (dE f) := by rw [List.getElem?_map, hf]; rfl
  refine ⟨_, _, gd_name w4, ?_⟩
  refine sd_seq (sd_asg (ed_call (ad_cons (ed_op v2 v3 (od_ixL (atI_of (j := i) (by omega) hE))) (ad_cons (ed_op v2 v4 (od_ixL (atI_of (j := j) (by omega) hF))) ad_nil)) ⟨e, f, _, edges_ok h1 hp e (List.mem_of_getElem? he), edges_ok h1 hp f (List.mem_of_getElem? hf), hm, rfl, rfl⟩) w5 ?_)
  refine sd_if (b := decide (i - j = 1 ∨ i - j = ps.length - 1)) (td_is (td_or (td_test (ed_op (ed_op v3 v4 od_sub) ed_int od_eqI)) fun _ => td_test (ed_op (ed_op v3 v4 od_sub) (ed_op v1 ed_int od_sub) od_eqI)) ?_) (fun hb => ?_) fun hb => ?_
  · rw [Bool.eq_iff_iff, Bool.or_eq_true_iff, decide_eq_true_eq, decide_eq_true_eq, decide_eq_true_eq, hlen]
    constructor
    · rintro (z | z)
      · exact .inl (by omega)
      · exact .inr (by omega)
    · rintro (z | z)
      · exact .inl (by omega)
      · exact .inr (by omega)
  · rw [hb]
    refine sd_ifF (td_is (td_test (ed_op (ed_told (ed_var (.s (.s (.s (.s (.s .z))))))) ed_str od_neS)) (by decide)) (sd_next ⟨by repeat constructor, List.Sublist.refl _⟩)
  · rw [hb]
    refine sd_ifF (td_is (td_test (ed_op (ed_told (ed_var (.s (.s (.s (.s (.s .z))))))) ed_str od_neS)) (by decide)) (sd_next ⟨by repeat constructor, List.Sublist.refl _⟩)
theorem has_goes_simply (Y : FX K mg Z) : Has P w K mg base 3 "goes_simply" ["points"] (spD K Z.C R_goes_simply) :=
  have hR : ∀ ds d, R_goes_simply ds d → ds.length = 1 := fun ds d ⟨_, _, _, _, _, e, _⟩ => by rw [e]; rfl
  ok_goes_simply Y (has_around Y) (has_meet Y) (spD_len hR) (runP hR rfl fun ds d ⟨ps, h1, h2, h3, h4, e, e2⟩ => by
    subst e e2
    exact sd_goes_simply h1 h2 h3 h4)
/-! size -/
def R_size (ds : List D) (d : D) : Prop := ∃ ps : List Pt, 1 ≤ ps.length ∧ ps.length ≤ 40 ∧ (∀ p ∈ ps, PtOk p) ∧ ds = [dR ps] ∧ d = .int (sizeF ps)
def sumTo (ps : List Pt) (i : Nat) : Int := (List.range i).foldl (fun s i => s + (atP ps ((i + ps.length - 1) % ps.length)).1 * (atP ps i).2 - (atP ps ((i + ps.length - 1) % ps.length)).2 * (atP ps i).1) 0
theorem sumTo_succ (ps : List Pt) (i : Nat) : sumTo ps (i + 1) = sumTo ps i + (atP ps ((i + ps.length - 1) % ps.length)).1 * (atP ps i).2 - (atP ps ((i + ps.length - 1) % ps.length)).2 * (atP ps i).1 := by
  unfold sumTo
  rw [List.range_succ, List.foldl_append]
  rfl
theorem sd_size {ps : List Pt} (h1 : 1 ≤ ps.length) (h40 : ps.length ≤ 40) (hp : ∀ p ∈ ps, PtOk p) : SD K C (t_size K Z) [.d (dR ps), .no, .no, .no, .no, .no, .no] [] (fin (.int (sizeF ps))) := by
  have hlen : (((ps.map dP).length : Nat) : Int) = ps.length := by rw [List.length_map]
  refine sd_seq (sd_asg ed_int w1 ?_)
  refine sd_seq (sd_for (il_r1 (ad_cons (ed_lenT v0) ad_nil) (by omega) (by omega)) (fun i => [.d (dR ps), .d (.int (sumTo ps i)), .no, .no, .no, .no, .no]) (fun _ => []) (by repeat constructor) (List.Sublist.refl _) (fun i d hd => ?_) ?_)
  · obtain ⟨hi, rfl⟩ := rngD_at hd
    have hi2 : i < ps.length := by omega
    have hj2 : (i + ps.length - 1) % ps.length < ps.length := Nat.mod_lt _ (by omega)
    obtain ⟨⟨a1, a2⟩, a3, a4⟩ := hp _ (atP_mem hi2)
    obtain ⟨⟨b1, b2⟩, b3, b4⟩ := hp _ (atP_mem hj2)
    refine ⟨_, _, gd_name w2, ?_⟩
    refine sd_seq (sd_asgG (ed_op v0 (ed_op v2 ed_int od_sub) (od_ixT (at_prev (i := i) hi2 (by omega)))) (gd_tup (gds_cons (gd_name w3) (gds_cons (gd_name w4) gds_nil)) rfl) ?_)
    refine sd_seq (sd_asgG (ed_op v0 v2 (od_ixT (at_z (i := i) hi2 (by omega)))) (gd_tup (gds_cons (gd_name w5) (gds_cons (gd_name w6) gds_nil)) rfl) ?_)
    refine sd_asg (ed_is (ed_op (ed_op v1 (ed_op v3 v6 (od_mul (CMul.l (by omega)))) od_add) (ed_op v4 v5 (od_mul (CMul.l (by omega)))) od_sub) (congrArg D.int (sumTo_succ ps i).symm)) w1 ⟨by repeat constructor, List.Sublist.refl _⟩
  · rw [rngD_len]
    refine sd_ret v1 ?_
    have e : (((ps.map dP).length : Nat) : Int).toNat = ps.length := by rw [List.length_map]; omega
    show D.int (sumTo ps (((ps.map dP).length : Nat) : Int).toNat) = D.int (sizeF ps)
    rw [e]
    rfl
theorem has_size (Y : FX K mg Z) : Has P w K mg base 1 "size" ["points"] (spD K Z.C R_size) :=
  have hR : ∀ ds d, R_size ds d → ds.length = 1 := fun ds d ⟨_, _, _, _, e, _⟩ => by rw [e]; rfl
  ok_size Y (spD_len hR) (runP hR rfl fun ds d ⟨ps, h1, h2, h3, e, e2⟩ => by
    subst e e2
    exact sd_size h1 h2 h3)
/-! min of a ring -/
theorem pyP (p : Pt) : (dP p).py = .tuple [.int p.1, .int p.2] := by simp [D.py, D.pys]
theorem pyP_inj {p q : Pt} (h : (dP p).py = (dP q).py) : p = q := by
  rw [pyP, pyP] at h
  injection h with h
  injection h with h1 h2
  injection h2 with h2 _
  injection h1 with h1
  injection h2 with h2
  exact Prod.ext h1 h2
theorem ltP_iff {p q : Pt} : ltP p q = true ↔ p.1 < q.1 ∨ (p.1 = q.1 ∧ p.2 < q.2) := by
  unfold ltP
  rw [HT.lexLt_cons, HT.lexLt_cons, HT.lexLt_nil_nil]
  by_cases h : p.1 = q.1
  · rw [if_pos h]
    by_cases h2 : p.2 = q.2
    · rw [if_pos h2]
      constructor
      · intro z; cases z
      · rintro (z | ⟨_, z⟩) <;> omega
    · rw [if_neg h2, decide_eq_true_eq]
      constructor
      · intro z; exact .inr ⟨h, z⟩
      · rintro (z | ⟨_, z⟩) <;> omega
  · rw [if_neg h, decide_eq_true_eq]
    constructor
    · intro z; exact .inl z
    · rintro (z | ⟨z, _⟩)
      · exact z
      · exact absurd z h
theorem ltP_data {p q : Pt} (h : ltP p q = true) : PySem.W.dataLt (dP q).py (dP p).py = false := by
  rw [pyP, pyP, PySem.W.dataLt_ii]
  have h2 := ltP_iff.mp h
  exact decide_eq_false fun z => by
    rcases h2 with a | ⟨a, b⟩
    · rcases z with z | ⟨z, y⟩ <;> omega
    · rcases z with z | ⟨z, y⟩ <;> omega
theorem minD_low (p : Pt) : ∀ qs : List Pt, (∀ q ∈ qs, ltP p q = true) → PySem.W.minD (dP p).py ((qs.map dP).map D.py) = (dP p).py := by
  intro qs h
  unfold PySem.W.minD
  induction qs with
  | nil => rfl
  | cons q qs ih =>
    rw [List.map_cons, List.map_cons, List.foldl_cons, ltP_data (h q List.mem_cons_self), if_neg Bool.false_ne_true]
    exact ih fun r hr => h r (List.mem_cons_of_mem _ hr)
theorem cd_minR {p : Pt} {qs : List Pt} (h : ∀ q ∈ qs, ltP p q = true) : CD K C (TX.rMinD K) [dR (p :: qs)] (dP p) := fun G H vs e r Q q => by
  obtain ⟨v, rfl, r1⟩ := r.one_of
  obtain ⟨a, xs, rfl, hx, r2⟩ := r1.tup_of
  have hpl : D.pls ((p :: qs).map dP) = true := by
    rw [D.pls_all, List.all_eq_true]
    intro d hd
    obtain ⟨z, _, rfl⟩ := List.mem_map.mp hd
    simp [D.pl, D.pls]
  have r3 := r2.dp e hpl
  rw [D.pys_map] at r3
  have hdep : ∀ l : List Pt, PyData.depthAll ((l.map dP).map D.py) ≤ 1 := by
    intro l
    induction l with
    | nil => exact Nat.zero_le _
    | cons z l ih =>
      rw [List.map_cons, List.map_cons, pyP]
      simp [PyData.depthAll, PyData.depth] at ih ⊢
      exact Nat.max_le.mpr ⟨Nat.le_refl _, ih⟩
  refine ⟨a, xs, (dP p).py, (qs.map dP).map D.py, rfl, Same.seqT e hx, r3, ⟨fun x hx y hy => ?_, fun x hx => ?_⟩, Nat.le_trans (hdep (p :: qs)) (by decide), fun i v hv hd => ?_⟩
  · obtain ⟨x', hx', rfl⟩ := List.mem_map.mp (show x ∈ ((p :: qs).map dP).map D.py from hx)
    obtain ⟨x'', _, rfl⟩ := List.mem_map.mp hx'
    obtain ⟨y', hy', rfl⟩ := List.mem_map.mp (show y ∈ ((p :: qs).map dP).map D.py from hy)
    obtain ⟨y'', _, rfl⟩ := List.mem_map.mp hy'
    rw [pyP, pyP]
    simp [PySem.W.alike, PySem.W.alikeAll]
  · obtain ⟨x', hx', rfl⟩ := List.mem_map.mp (show x ∈ ((p :: qs).map dP).map D.py from hx)
    obtain ⟨x'', _, rfl⟩ := List.mem_map.mp hx'
    rw [pyP]
    exact fun z => by cases z
  · rw [minD_low p qs h] at hd
    obtain ⟨d, h1, h2⟩ := r2.getV hv
    have hd2 : (((p :: qs).map dP).map D.py)[i]? = some (dP p).py := hd
    rw [List.getElem?_map, h1] at hd2
    obtain ⟨z, _, rfl, _⟩ := map_get h1
    have e2 : (dP z).py = (dP p).py := Option.some.inj hd2
    rw [pyP_inj e2] at h2
    exact q v G H (.refl e) h2
/-! is_ring -/
def R_is_ring (ds : List D) (d : D) : Prop := ∃ ps : List Pt, RingOk ps ∧ ds = [dR ps] ∧ d = .bl true
theorem sd_is_ring {ps : List Pt} (h : RingOk ps) : SD K C (t_is_ring K Z (spD K C R_are_points) (spD K C R_goes_simply) (spD K C R_size)) [.d (dR ps)] [] (fin (.bl true)) := by
  have h3 := h.n3
  have h40 := h.n40
  refine sd_seq (sd_ifF (td_or2 (td_n (td_B (ed_call (ad_cons v0 (ad_cons ed_int (ad_cons ed_int ad_nil))) ⟨ps, 3, 40, h.pts, h40, by omega, rfl, rfl⟩))) (td_n (td_B (ed_call (ad_cons v0 ad_nil) ⟨ps, by omega, h40, h.pts, h.simple, rfl, rfl⟩)))) (sd_next ?_))
  have hc : ∃ p qs, ps = p :: qs := by
    cases ps with
    | nil => simp at h3
    | cons p qs => exact ⟨p, qs, rfl⟩
  obtain ⟨p, qs, rfl⟩ := hc
  refine sd_ret (ed_and2 (ed_is (ed_op (ed_call (ad_cons v0 ad_nil) ⟨_, by omega, h40, h.pts, rfl, rfl⟩) ed_int od_gt) (by rw [decide_eq_true h.big])) (ed_is (ed_op (ed_op v0 ed_int (od_ixT ix0)) (ed_cb (ad_cons v0 ad_nil) (cd_minR fun q hq => ?_)) od_eqP) (by simp))) rfl
  obtain ⟨i, hi⟩ := List.mem_iff_getElem?.mp hq
  have hil := (List.getElem?_eq_some_iff.mp hi).1
  have := h.low (i + 1) (by omega) (by rw [List.length_cons]; omega)
  have e1 : atP (p :: qs) (i + 1) = q := by
    have z := atP_get (ps := p :: qs) (i := i + 1) (by rw [List.length_cons]; omega)
    rw [List.getElem?_cons_succ, hi] at z
    exact (Option.some.inj z).symm
  have e0 : atP (p :: qs) 0 = p := rfl
  rw [e1, e0] at this
  exact this
theorem has_is_ring (Y : FX K mg Z) : Has P w K mg base 4 "is_ring" ["value"] (spD K Z.C R_is_ring) :=
  have hR : ∀ ds d, R_is_ring ds d → ds.length = 1 := fun ds d ⟨_, _, e, _⟩ => by rw [e]; rfl
  ok_is_ring Y (has_are_points Y) (has_goes_simply Y) (has_size Y) (spD_len hR) (runP hR rfl fun ds d ⟨ps, h1, e, e2⟩ => by
    subst e e2
    exact sd_is_ring h1)
/-! is_shape -/
def R_is_shape (ds : List D) (d : D) : Prop := ∃ s : Sh, ShOk s ∧ ds = [dSh s] ∧ d = .bl true
theorem sd_is_shape {s : Sh} (h : ShOk s) : SD K C (t_is_shape K Z (spD K C R_is_point) (spD K C R_is_line) (spD K C R_is_ring)) [.d (dSh s), .no, .no, .no] [] (fin (.bl true)) := by
  cases s with
  | pt p =>
    refine sd_seq (sd_ifF (td_or2 (td_n (td_B (ed_isi v0 rfl kit_tt))) (td_or2 (td_neF (ed_lenT v0) ed_int rfl) (td_n (td_B (ed_isi (ed_op v0 ed_int (od_ixT ix0)) rfl kit_ss))))) (sd_next ?_))
    refine sd_seq (sd_asgG v0 (gd_tup (gds_cons (gd_name w1) (gds_cons (gd_name w2) gds_nil)) rfl) ?_)
    exact sd_seq (sd_ifT (td_is (td_test (ed_op v1 ed_str od_eqS)) rfl) (sd_ret (ed_call (ad_cons v2 ad_nil) ⟨p, h, rfl, rfl⟩) rfl))
  | ln ps =>
    refine sd_seq (sd_ifF (td_or2 (td_n (td_B (ed_isi v0 rfl kit_tt))) (td_or2 (td_neF (ed_lenT v0) ed_int rfl) (td_n (td_B (ed_isi (ed_op v0 ed_int (od_ixT ix0)) rfl kit_ss))))) (sd_next ?_))
    refine sd_seq (sd_asgG v0 (gd_tup (gds_cons (gd_name w1) (gds_cons (gd_name w2) gds_nil)) rfl) ?_)
    refine sd_seq (sd_ifF (td_is (td_test (ed_op v1 ed_str od_eqS)) (by decide)) (sd_next ?_))
    exact sd_seq (sd_ifT (td_is (td_test (ed_op v1 ed_str od_eqS)) rfl) (sd_ret (ed_call (ad_cons v2 ad_nil) ⟨ps, h, rfl, rfl⟩) rfl))
  | ar rs =>
    obtain ⟨h1, h6, hr⟩ := h
    refine sd_seq (sd_ifF (td_or2 (td_n (td_B (ed_isi v0 rfl kit_tt))) (td_or2 (td_neF (ed_lenT v0) ed_int rfl) (td_n (td_B (ed_isi (ed_op v0 ed_int (od_ixT ix0)) rfl kit_ss))))) (sd_next ?_))
    refine sd_seq (sd_asgG v0 (gd_tup (gds_cons (gd_name w1) (gds_cons (gd_name w2) gds_nil)) rfl) ?_)
    refine sd_seq (sd_ifF (td_is (td_test (ed_op v1 ed_str od_eqS)) (by decide)) (sd_next ?_))
    refine sd_seq (sd_ifF (td_is (td_test (ed_op v1 ed_str od_eqS)) (by decide)) (sd_next ?_))
    refine sd_seq (sd_ifF (td_or2 (td_is (td_test (ed_op v1 ed_str od_neS)) (by decide)) (td_or2 (td_n (td_B (ed_isi v2 rfl kit_tt))) (td_n (td_btw ed_int (ed_lenT v2) ed_int (by rw [List.length_map]; omega))))) (sd_next ?_))
    refine sd_ret (ed_allT (il_tup v2) (by rw [List.length_map]; omega) fun i d hd => ?_) rfl
    obtain ⟨r, _, rfl, hm⟩ := map_get hd
    exact ⟨_, _, gd_name w3, mem1 (by simp), ed_call (ad_cons v3 ad_nil) ⟨r, hr r hm, rfl, rfl⟩⟩
theorem has_is_shape (Y : FX K mg Z) : Has P w K mg base 5 "is_shape" ["value"] (spD K Z.C R_is_shape) :=
  have hR : ∀ ds d, R_is_shape ds d → ds.length = 1 := fun ds d ⟨_, _, e, _⟩ => by rw [e]; rfl
  ok_is_shape Y (has_is_point Y) (has_is_line Y) (has_is_ring Y) (spD_len hR) (runP hR rfl fun ds d ⟨ps, h1, e, e2⟩ => by
    subst e e2
    exact sd_is_shape h1)
/-! is_thing, is_map -/
def R_is_thing (ds : List D) (d : D) : Prop := ∃ t : Th, ThOk t ∧ ds = [dTh t] ∧ d = .bl true
theorem sd_is_thing {t : Th} (h : ThOk t) : SD K C (t_is_thing K Z (spD K C R_is_name) (spD K C R_is_shape)) [.d (dTh t)] [] (fin (.bl true)) := by
  refine sd_seq (sd_ifF (td_or2 (td_n (td_B (ed_isi v0 rfl kit_tt))) (td_neF (ed_lenT v0) ed_int rfl)) (sd_next ?_))
  exact sd_ret (ed_and2 (ed_call (ad_cons (ed_op v0 ed_int (od_ixT ix0)) ad_nil) ⟨_, h.nm, rfl, rfl⟩) (ed_and2 (ed_call (ad_cons (ed_op v0 ed_int (od_ixT ix1)) ad_nil) ⟨_, h.kd, rfl, rfl⟩) (ed_call (ad_cons (ed_op v0 ed_int (od_ixT ix2)) ad_nil) ⟨_, h.sh, rfl, rfl⟩))) rfl
theorem has_is_thing (Y : FX K mg Z) : Has P w K mg base 6 "is_thing" ["value"] (spD K Z.C R_is_thing) :=
  have hR : ∀ ds d, R_is_thing ds d → ds.length = 1 := fun ds d ⟨_, _, e, _⟩ => by rw [e]; rfl
  ok_is_thing Y (has_is_name Y) (has_is_shape Y) (spD_len hR) (runP hR rfl fun ds d ⟨ps, h1, e, e2⟩ => by
    subst e e2
    exact sd_is_thing h1)
def R_is_map (ds : List D) (d : D) : Prop := ∃ ts : List Th, MapOk ts ∧ ds = [dMap ts] ∧ d = .bl true
theorem sd_is_map {ts : List Th} (h : MapOk ts) : SD K C (t_is_map K Z (spD K C R_is_thing)) [.d (dMap ts), .no, .no] [] (fin (.bl true)) := by
  have h60 := h.n
  refine sd_seq (sd_ifF (td_or2 (td_n (td_B (ed_isi v0 rfl kit_tt))) (td_or2 (td_is (td_test (ed_op (ed_lenT v0) ed_int od_gt)) (by rw [List.length_map]; exact decide_eq_false (by omega)))
    (td_n (td_B (ed_allT (il_tup v0) (by rw [List.length_map]; omega) fun i d hd => by
      obtain ⟨t, _, rfl, hm⟩ := map_get hd
      exact ⟨_, _, gd_name w1, mem1 (by simp), ed_call (ad_cons v1 ad_nil) ⟨t, h.each t hm, rfl, rfl⟩⟩))))) (sd_next ?_))
  refine sd_ret (ed_allT (il_zipT (ad_cons v0 (ad_cons (ed_slF (k := 1) v0 (pd_some ed_int) pd_none) ad_nil))) (by rw [zipD_len, List.length_map]; omega) fun i d hd => ?_) rfl
  obtain ⟨a, b, ha, hb, rfl⟩ := zipD_at hd
  rw [List.getElem?_drop] at hb
  obtain ⟨ta, ha2, rfl, _⟩ := map_get ha
  obtain ⟨tb, hb2, rfl, _⟩ := map_get hb
  rw [Nat.add_comm] at hb2
  refine ⟨_, _, gd_tup (gds_cons (gd_name w1) (gds_cons (gd_name w2) gds_nil)) rfl, by simp, ed_is (ed_op (ed_op v1 ed_int (od_ixT ix0)) (ed_op v2 ed_int (od_ixT ix0)) od_ltS) ?_⟩
  rw [decide_eq_true (h.inc i ta tb ha2 hb2)]
theorem has_is_map (Y : FX K mg Z) : Has P w K mg base 7 "is_map" ["value"] (spD K Z.C R_is_map) :=
  have hR : ∀ ds d, R_is_map ds d → ds.length = 1 := fun ds d ⟨_, _, e, _⟩ => by rw [e]; rfl
  ok_is_map Y (has_is_thing Y) (spD_len hR) (runP hR rfl fun ds d ⟨ps, h1, e, e2⟩ => by
    subst e e2
    exact sd_is_map h1)
end
end TA

/-! The defs, 5: styles, marks. -/
namespace TA
open PySem L2
section
variable {P : Program} {w : World} {K : PySem.W.Frag} {mg : Str → Option Value} {base : Heap} {Z : Cst} {C : Addr} {de : List Sl} {om : Om}
/-! is_between, is_scale, is_pixel -/
def R_is_between (ds : List D) (d : D) : Prop := ∃ i lo hi : Int, (lo ≤ i ∧ i ≤ hi) ∧ ds = [.int i, .int lo, .int hi] ∧ d = .bl true
theorem sd_is_between {i lo hi : Int} (h : lo ≤ i ∧ i ≤ hi) : SD K C (t_is_between K Z) [.d (.int i), .d (.int lo), .d (.int hi)] [] (fin (.bl true)) :=
  sd_ret (ed_and2 (ed_isi v0 rfl kit_ii) (ed_and2 (ed_not (ed_isi v0 rfl kit_ib)) (ed_btw v1 v0 v2 h))) rfl
theorem has_is_between (Y : FX K mg Z) : Has P w K mg base 1 "is_between" ["value", "low", "high"] (spD K Z.C R_is_between) :=
  have hR : ∀ ds d, R_is_between ds d → ds.length = 3 := fun ds d ⟨_, _, _, _, e, _⟩ => by rw [e]; rfl
  ok_is_between Y (spD_len hR) (runP hR rfl fun ds d ⟨i, lo, hi, h, e, e2⟩ => by
    subst e e2
    exact sd_is_between h)
def R_is_scale (ds : List D) (d : D) : Prop := ∃ i : Int, ScOk i ∧ ds = [.int i] ∧ d = .bl true
theorem sd_is_scale {i : Int} (h : ScOk i) : SD K C (t_is_scale K Z (spD K C R_is_between)) [.d (.int i)] [] (fin (.bl true)) :=
  sd_ret (ed_call (ad_cons v0 (ad_cons ed_int (ad_cons ed_int ad_nil))) ⟨_, _, _, h, rfl, rfl⟩) rfl
theorem has_is_scale (Y : FX K mg Z) : Has P w K mg base 2 "is_scale" ["value"] (spD K Z.C R_is_scale) :=
  have hR : ∀ ds d, R_is_scale ds d → ds.length = 1 := fun ds d ⟨_, _, e, _⟩ => by rw [e]; rfl
  ok_is_scale Y (has_is_between Y) (spD_len hR) (runP hR rfl fun ds d ⟨i, h, e, e2⟩ => by
    subst e e2
    exact sd_is_scale h)
def R_is_pixel (ds : List D) (d : D) : Prop := ∃ i : Int, (-2048 ≤ i ∧ i ≤ 2047) ∧ ds = [.int i] ∧ d = .bl true
theorem sd_is_pixel {i : Int} (h : -2048 ≤ i ∧ i ≤ 2047) : SD K C (t_is_pixel K Z (spD K C R_is_between)) [.d (.int i)] [] (fin (.bl true)) :=
  sd_ret (ed_call (ad_cons v0 (ad_cons ed_int (ad_cons ed_int ad_nil))) ⟨_, _, _, h, rfl, rfl⟩) rfl
theorem has_is_pixel (Y : FX K mg Z) : Has P w K mg base 2 "is_pixel" ["value"] (spD K Z.C R_is_pixel) :=
  have hR : ∀ ds d, R_is_pixel ds d → ds.length = 1 := fun ds d ⟨_, _, e, _⟩ => by rw [e]; rfl
  ok_is_pixel Y (has_is_between Y) (spD_len hR) (runP hR rfl fun ds d ⟨i, h, e, e2⟩ => by
    subst e e2
    exact sd_is_pixel h)
/-! is_look -/
def R_is_look (ds : List D) (d : D) : Prop := ∃ l : Lk, LkOk l ∧ ds = [dLk l] ∧ d = .bl true
theorem ed_tup2 {ta tb : TE} {x y : D} (ha : ED K C ta de om x om) (hb : ED K C tb de om y om) : ED K C (tTup (tCons ta (tCons tb tNil))) de om (.tup [x, y]) om := ed_tup (ad_cons ha (ad_cons hb ad_nil)) (nle rfl)
theorem sd_is_look {l : Lk} (h : LkOk l) : SD K C (t_is_look K Z (spD K C R_is_between)) [.d (dLk l)] [] (fin (.bl true)) := by
  cases l with
  | fill c =>
    refine sd_seq (sd_ifF (td_or2 (td_n (td_B (ed_isi v0 rfl kit_tt))) (td_or2 (td_is (td_test (ed_op (ed_lenT v0) ed_int od_lt)) rfl) (td_n (td_B (ed_isi (ed_op v0 ed_int (od_ixT ix0)) rfl kit_ss))))) (sd_next ?_))
    refine sd_seq (sd_ifF (td_n (td_B (ed_call (ad_cons (ed_op v0 ed_int (od_ixT ix1)) (ad_cons ed_int (ad_cons ed_int ad_nil))) ⟨_, _, _, h, rfl, rfl⟩))) (sd_next ?_))
    exact sd_seq (sd_ifT (td_is (td_test (ed_op (ed_op v0 ed_int (od_ixT ix0)) ed_str od_eqS)) rfl) (sd_ret (ed_op (ed_lenT v0) ed_int od_eqI) rfl))
  | stroke c s =>
    obtain ⟨h1, h2⟩ := h
    refine sd_seq (sd_ifF (td_or2 (td_n (td_B (ed_isi v0 rfl kit_tt))) (td_or2 (td_is (td_test (ed_op (ed_lenT v0) ed_int od_lt)) rfl) (td_n (td_B (ed_isi (ed_op v0 ed_int (od_ixT ix0)) rfl kit_ss))))) (sd_next ?_))
    refine sd_seq (sd_ifF (td_n (td_B (ed_call (ad_cons (ed_op v0 ed_int (od_ixT ix1)) (ad_cons ed_int (ad_cons ed_int ad_nil))) ⟨_, _, _, h1, rfl, rfl⟩))) (sd_next ?_))
    refine sd_seq (sd_ifF (td_is (td_test (ed_op (ed_op v0 ed_int (od_ixT ix0)) ed_str od_eqS)) (by decide)) (sd_next ?_))
    exact sd_ret (ed_and2 (ed_is (ed_op (ed_op v0 ed_int (od_ixT ix0)) (ed_tup2 ed_str ed_str) (od_inTs (ss := ["stroke", "dot"]))) (congrArg D.bl (by decide))) (ed_and2 (ed_op (ed_lenT v0) ed_int od_eqI) (ed_call (ad_cons (ed_op v0 ed_int (od_ixT ix2)) (ad_cons ed_int (ad_cons ed_int ad_nil))) ⟨_, _, _, h2, rfl, rfl⟩))) rfl
  | dot c s =>
    obtain ⟨h1, h2⟩ := h
    refine sd_seq (sd_ifF (td_or2 (td_n (td_B (ed_isi v0 rfl kit_tt))) (td_or2 (td_is (td_test (ed_op (ed_lenT v0) ed_int od_lt)) rfl) (td_n (td_B (ed_isi (ed_op v0 ed_int (od_ixT ix0)) rfl kit_ss))))) (sd_next ?_))
    refine sd_seq (sd_ifF (td_n (td_B (ed_call (ad_cons (ed_op v0 ed_int (od_ixT ix1)) (ad_cons ed_int (ad_cons ed_int ad_nil))) ⟨_, _, _, h1, rfl, rfl⟩))) (sd_next ?_))
    refine sd_seq (sd_ifF (td_is (td_test (ed_op (ed_op v0 ed_int (od_ixT ix0)) ed_str od_eqS)) (by decide)) (sd_next ?_))
    exact sd_ret (ed_and2 (ed_is (ed_op (ed_op v0 ed_int (od_ixT ix0)) (ed_tup2 ed_str ed_str) (od_inTs (ss := ["stroke", "dot"]))) (congrArg D.bl (by decide))) (ed_and2 (ed_op (ed_lenT v0) ed_int od_eqI) (ed_call (ad_cons (ed_op v0 ed_int (od_ixT ix2)) (ad_cons ed_int (ad_cons ed_int ad_nil))) ⟨_, _, _, h2, rfl, rfl⟩))) rfl
theorem has_is_look (Y : FX K mg Z) : Has P w K mg base 2 "is_look" ["value"] (spD K Z.C R_is_look) :=
  have hR : ∀ ds d, R_is_look ds d → ds.length = 1 := fun ds d ⟨_, _, e, _⟩ => by rw [e]; rfl
  ok_is_look Y (has_is_between Y) (spD_len hR) (runP hR rfl fun ds d ⟨i, h, e, e2⟩ => by
    subst e e2
    exact sd_is_look h)
/-! is_rule, is_style -/
def R_is_rule (ds : List D) (d : D) : Prop := ∃ r : Ru, RuOk r ∧ ds = [dRu r] ∧ d = .bl true
theorem sd_is_rule {r : Ru} (h : RuOk r) : SD K C (t_is_rule K Z (spD K C R_is_name) (spD K C R_is_scale) (spD K C R_is_between) (spD K C R_is_look)) [.d (dRu r), .no, .no, .no, .no, .no] [] (fin (.bl true)) := by
  have h1 := h.lo
  have h2 := h.le
  have h3 := h.hi
  refine sd_seq (sd_ifF (td_or2 (td_n (td_B (ed_isi v0 rfl kit_tt))) (td_neF (ed_lenT v0) ed_int rfl)) (sd_next ?_))
  refine sd_seq (sd_asgG v0 (gd_tup (gds_cons (gd_name w1) (gds_cons (gd_name w2) (gds_cons (gd_name w3) (gds_cons (gd_name w4) (gds_cons (gd_name w5) gds_nil))))) rfl) ?_)
  refine sd_seq (sd_ifF (td_or2 (td_n (td_B (ed_isi v1 rfl kit_ss))) ?_) (sd_next ?_))
  · rcases h.kd with z | z
    · exact td_is (b := false) (td_and (b := false) (td_test (ed_op v1 ed_str od_neS)) fun y => by
        rw [z] at y
        cases y) (by rw [z]; rfl)
    · exact td_is (td_and (td_test (ed_op v1 ed_str od_neS)) fun _ => td_n (td_B (ed_call (ad_cons v1 ad_nil) ⟨_, z, rfl, rfl⟩))) (by rw [Bool.and_false])
  refine sd_seq (sd_ifF (td_or2 (td_n (td_B (ed_call (ad_cons v2 ad_nil) ⟨_, ⟨h1, by omega⟩, rfl, rfl⟩))) (td_or2 (td_n (td_B (ed_call (ad_cons v3 ad_nil) ⟨_, ⟨by omega, h3⟩, rfl, rfl⟩))) (td_is (td_test (ed_op v2 v3 od_gt)) (decide_eq_false (by omega))))) (sd_next ?_))
  exact sd_ret (ed_and2 (ed_call (ad_cons v4 (ad_cons (ed_neg ed_int) (ad_cons ed_int ad_nil))) ⟨_, _, _, h.od, rfl, rfl⟩) (ed_call (ad_cons v5 ad_nil) ⟨_, h.lk, rfl, rfl⟩)) rfl
theorem has_is_rule (Y : FX K mg Z) : Has P w K mg base 3 "is_rule" ["value"] (spD K Z.C R_is_rule) :=
  have hR : ∀ ds d, R_is_rule ds d → ds.length = 1 := fun ds d ⟨_, _, e, _⟩ => by rw [e]; rfl
  ok_is_rule Y (has_is_name Y) (has_is_scale Y) (has_is_between Y) (has_is_look Y) (spD_len hR) (runP hR rfl fun ds d ⟨i, h, e, e2⟩ => by
    subst e e2
    exact sd_is_rule h)
def R_is_style (ds : List D) (d : D) : Prop := ∃ rs : List Ru, StyOk rs ∧ ds = [dSty rs] ∧ d = .bl true
theorem sd_is_style {rs : List Ru} (h : StyOk rs) : SD K C (t_is_style K Z (spD K C R_is_rule)) [.d (dSty rs), .no] [] (fin (.bl true)) := by
  have h12 := h.n
  refine sd_ret (ed_and2 (ed_isi v0 rfl kit_tt) (ed_and2 (ed_is (ed_op (ed_lenT v0) ed_int od_le) (by rw [List.length_map]; exact congrArg D.bl (decide_eq_true (by omega)))) (ed_allT (il_tup v0) (by rw [List.length_map]; omega) fun i d hd => ?_))) rfl
  obtain ⟨r, _, rfl, hr⟩ := map_get hd
  exact ⟨_, _, gd_name w1, mem1 (by simp), ed_call (ad_cons v1 ad_nil) ⟨r, h.each r hr, rfl, rfl⟩⟩
theorem has_is_style (Y : FX K mg Z) : Has P w K mg base 4 "is_style" ["value"] (spD K Z.C R_is_style) :=
  have hR : ∀ ds d, R_is_style ds d → ds.length = 1 := fun ds d ⟨_, _, e, _⟩ => by rw [e]; rfl
  ok_is_style Y (has_is_rule Y) (spD_len hR) (runP hR rfl fun ds d ⟨i, h, e, e2⟩ => by
    subst e e2
    exact sd_is_style h)
/-! the checks -/
def R_check_style (ds : List D) (d : D) : Prop := ∃ rs : List Ru, StyOk rs ∧ ds = [dSty rs] ∧ d = .non
theorem has_check_style (Y : FX K mg Z) : Has P w K mg base 5 "check_style" ["style"] (spD K Z.C R_check_style) :=
  have hR : ∀ ds d, R_check_style ds d → ds.length = 1 := fun ds d ⟨_, _, e, _⟩ => by rw [e]; rfl
  ok_check_style Y (has_is_style Y) (spD_len hR) (runP hR rfl fun ds d ⟨i, h, e, e2⟩ => by
    subst e e2
    exact sd_ifF (td_n (td_B (ed_call (ad_cons v0 ad_nil) ⟨_, h, rfl, rfl⟩))) (sd_next rfl))
def R_check_scale (ds : List D) (d : D) : Prop := ∃ i : Int, ScOk i ∧ ds = [.int i] ∧ d = .non
theorem has_check_scale (Y : FX K mg Z) : Has P w K mg base 3 "check_scale" ["scale"] (spD K Z.C R_check_scale) :=
  have hR : ∀ ds d, R_check_scale ds d → ds.length = 1 := fun ds d ⟨_, _, e, _⟩ => by rw [e]; rfl
  ok_check_scale Y (has_is_scale Y) (spD_len hR) (runP hR rfl fun ds d ⟨i, h, e, e2⟩ => by
    subst e e2
    exact sd_ifF (td_n (td_B (ed_call (ad_cons v0 ad_nil) ⟨_, h, rfl, rfl⟩))) (sd_next rfl))
def R_check_map (ds : List D) (d : D) : Prop := ∃ ts : List Th, MapOk ts ∧ ds = [dMap ts] ∧ d = .non
theorem has_check_map (Y : FX K mg Z) : Has P w K mg base 8 "check_map" ["map_things"] (spD K Z.C R_check_map) :=
  have hR : ∀ ds d, R_check_map ds d → ds.length = 1 := fun ds d ⟨_, _, e, _⟩ => by rw [e]; rfl
  ok_check_map Y (has_is_map Y) (spD_len hR) (runP hR rfl fun ds d ⟨i, h, e, e2⟩ => by
    subst e e2
    exact sd_ifF (td_n (td_B (ed_call (ad_cons v0 ad_nil) ⟨_, h, rfl, rfl⟩))) (sd_next rfl))
/-! fits -/
def R_fits (ds : List D) (d : D) : Prop := ∃ (l : Lk) (s : Sh), ds = [dLk l, dSh s] ∧ d = .bl (fitF l s)
def shW : Sh → Str
  | .pt _ => "point"
  | .ln _ => "line"
  | .ar _ => "area"
def lkW : Lk → Str
  | .fill _ => "fill"
  | .stroke _ _ => "stroke"
  | .dot _ _ => "dot"
theorem shW_at (s : Sh) : ∃ r, dSh s = .tup (.str (shW s) :: r) := by cases s <;> exact ⟨_, rfl⟩
theorem lkW_at (s : Lk) : ∃ r, dLk s = .tup (.str (lkW s) :: r) := by cases s <;> exact ⟨_, rfl⟩
theorem ed_shW {te : TE} {s : Sh} (h : ED K C te de om (dSh s) om) : ED K C (tOp (rIxT K) te (tC (.int 0))) de om (.str (shW s)) om := by
  obtain ⟨r, e⟩ := shW_at s
  rw [e] at h
  exact ed_op h ed_int (od_ixT ix0)
theorem ed_lkW {te : TE} {s : Lk} (h : ED K C te de om (dLk s) om) : ED K C (tOp (rIxT K) te (tC (.int 0))) de om (.str (lkW s)) om := by
  obtain ⟨r, e⟩ := lkW_at s
  rw [e] at h
  exact ed_op h ed_int (od_ixT ix0)
theorem sd_fits (Y : FX K mg Z) {l : Lk} {s : Sh} : SD K Z.C (t_fits K Z) [.d (dLk l), .d (dSh s)] [] (fin (.bl (fitF l s))) := by
  have hs := ed_shW (K := K) (C := Z.C) (de := [.d (dLk l), .d (dSh s)]) (om := []) (s := s) v1
  have hl := ed_lkW (K := K) (C := Z.C) (de := [.d (dLk l), .d (dSh s)]) (om := []) (s := l) v0
  cases l with
  | fill c =>
    refine sd_ret (ed_is (ed_op hs (ed_fit (s := "fill") (ws := ["area"]) Y (by simp) hl) (od_inTs (ss := ["area"]))) ?_) rfl
    cases s
    · exact congrArg D.bl (show decide (("point" : Str) ∈ (["area"] : List Str)) = false by decide)
    · exact congrArg D.bl (show decide (("line" : Str) ∈ (["area"] : List Str)) = false by decide)
    · exact congrArg D.bl (show decide (("area" : Str) ∈ (["area"] : List Str)) = true by decide)
  | stroke c z =>
    refine sd_ret (ed_is (ed_op hs (ed_fit (s := "stroke") (ws := ["line", "area"]) Y (by simp) hl) (od_inTs (ss := ["line", "area"]))) ?_) rfl
    cases s
    · exact congrArg D.bl (show decide (("point" : Str) ∈ (["line", "area"] : List Str)) = false by decide)
    · exact congrArg D.bl (show decide (("line" : Str) ∈ (["line", "area"] : List Str)) = true by decide)
    · exact congrArg D.bl (show decide (("area" : Str) ∈ (["line", "area"] : List Str)) = true by decide)
  | dot c z =>
    refine sd_ret (ed_is (ed_op hs (ed_fit (s := "dot") (ws := ["point"]) Y (by simp) hl) (od_inTs (ss := ["point"]))) ?_) rfl
    cases s
    · exact congrArg D.bl (show decide (("point" : Str) ∈ (["point"] : List Str)) = true by decide)
    · exact congrArg D.bl (show decide (("line" : Str) ∈ (["point"] : List Str)) = false by decide)
    · exact congrArg D.bl (show decide (("area" : Str) ∈ (["point"] : List Str)) = false by decide)
theorem has_fits (Y : FX K mg Z) (hw : Z.w = w) : Has P w K mg base 1 "fits" ["look", "shape"] (spD K Z.C R_fits) :=
  have hR : ∀ ds d, R_fits ds d → ds.length = 2 := fun ds d ⟨_, _, e, _⟩ => by rw [e]; rfl
  ok_fits Y hw (spD_len hR) (runP hR rfl fun ds d ⟨l, s, e, e2⟩ => by
    subst e e2
    exact sd_fits Y)
/-! applying_rules -/
theorem ruAt_get {rs : List Ru} {i : Nat} {r : Ru} (h : rs[i]? = some r) : ruAt rs i = r := by
  unfold ruAt
  rw [List.getD_eq_getElem?_getD, h]
  rfl
def R_applying_rules (ds : List D) (d : D) : Prop := ∃ (rs : List Ru) (t : Th) (sc : Int), rs.length ≤ 12 ∧ ds = [dSty rs, dTh t, .int sc] ∧ d = .lst ((appL rs t sc).map fun i => .int (i : Nat))
theorem sd_applying_rules {rs : List Ru} {t : Th} {sc : Int} (h12 : rs.length ≤ 12) : SD K C (t_applying_rules K Z (spD K C R_fits)) [.d (dSty rs), .d (dTh t), .d (.int sc), .no, .no, .no, .no, .no, .no, .no] [] (fin (.lst ((appL rs t sc).map fun i => .int (i : Nat)))) := by
  refine sd_seq (sd_new (en_lst ad_nil (nle rfl)) fun a => ⟨_, w3, ?_⟩)
  refine sd_seq (sd_for (il_enumT (ad_cons v0 ad_nil)) (fun _ => [.d (dSty rs), .d (dTh t), .d (.int sc), .o a, .no, .no, .no, .no, .no, .no]) (fun i => [(a, .l (gen (fun i => appB (ruAt rs i) t sc) (fun i => .int (i : Nat)) i))]) (by repeat constructor) (List.Sublist.refl _) (fun i d hd => ?_) ?_)
  · obtain ⟨d, hd2, rfl⟩ := enumD_at hd
    obtain ⟨r, hr, rfl, _⟩ := map_get hd2
    have hi : i < 12 := Nat.lt_of_lt_of_le (List.getElem?_eq_some_iff.mp hr).1 h12
    have er : ruAt rs i = r := ruAt_get hr
    refine ⟨_, _, gd_tup (gds_cons (gd_name w4) (gds_cons (gd_tup (gds_cons (gd_name w5) (gds_cons (gd_name w6) (gds_cons (gd_name w7) (gds_cons (gd_name w8) (gds_cons (gd_name w9) gds_nil))))) rfl) gds_nil)) rfl, ?_⟩
    refine sd_if (b := appB r t sc) (td_is (td_and (td_test (ed_op v5 (ed_tup2 ed_str (ed_op v1 ed_int (od_ixT ix1))) (od_inTs (ss := ["", t.kd])))) fun _ => td_and (td_test (ed_chain v6 v2 od_le (fun _ => v7) fun _ => od_le)) fun _ => td_B (ed_call (ad_cons v9 (ad_cons (ed_op v1 ed_int (od_ixT ix2)) ad_nil)) ⟨_, _, rfl, rfl⟩)) ?_) (fun hb => ?_) fun hb => ?_
    · have e : decide (r.kd ∈ ([("" : Str), t.kd] : List Str)) = decide (r.kd = "" ∨ r.kd = t.kd) := by
        rw [Bool.eq_iff_iff, decide_eq_true_eq, decide_eq_true_eq]
        simp
      rw [e, ← Bool.and_assoc]
      rfl
    · refine sd_app (.s (.s (.s .z))) v4 .z .z (Nat.lt_of_le_of_lt (gen_len _ _ i) (Nat.lt_trans hi (by decide))) .z ⟨by repeat constructor, ?_⟩
      show List.Sublist [(a, Ow.l (gen (fun i => appB (ruAt rs i) t sc) (fun i => .int (i : Nat)) (i + 1)))] _
      rw [gen, er, if_pos hb]
      exact List.Sublist.refl _
    · refine sd_next ⟨by repeat constructor, ?_⟩
      show List.Sublist [(a, Ow.l (gen (fun i => appB (ruAt rs i) t sc) (fun i => .int (i : Nat)) (i + 1)))] _
      rw [gen, er, if_neg (by rw [hb]; exact Bool.false_ne_true), List.append_nil]
      exact List.Sublist.refl _
  · refine sd_frz (.s (.s (.s .z))) .z w3 (sd_ret v3 ?_)
    rw [enumD_len, List.length_map, gen_eq]
    rfl
theorem has_applying_rules (Y : FX K mg Z) (hw : Z.w = w) : Has P w K mg base 2 "applying_rules" ["style", "thing", "scale"] (spD K Z.C R_applying_rules) :=
  have hR : ∀ ds d, R_applying_rules ds d → ds.length = 3 := fun ds d ⟨_, _, _, _, e, _⟩ => by rw [e]; rfl
  ok_applying_rules Y (has_fits Y hw) (spD_len hR) (runP hR rfl fun ds d ⟨rs, t, sc, h, e, e2⟩ => by
    subst e e2
    exact sd_applying_rules h)
end
end TA

/-! The defs, 6: marks, ways, is_east, is_near. -/
namespace TA
open PySem L2
theorem pyM (m : Mk3) : (dMk m).py = .tuple [.int m.1, .int (m.2.1 : Nat), .str m.2.2] := by simp [dMk, D.py, D.pys]
theorem plM (m : Mk3) : (dMk m).pl = true := by simp [dMk, D.pl, D.pls]
theorem appL_len (rs : List Ru) (t : Th) (sc : Int) : (appL rs t sc).length ≤ rs.length := by
  unfold appL
  refine Nat.le_trans (List.length_filter_le _ _) ?_
  rw [List.length_range]
  exact Nat.le_refl _
theorem appL_mem {rs : List Ru} {t : Th} {sc : Int} {i : Nat} (h : i ∈ appL rs t sc) : i < rs.length ∧ appB (ruAt rs i) t sc = true := by
  obtain ⟨h1, h2⟩ := List.mem_filter.mp h
  exact ⟨List.mem_range.mp h1, h2⟩
theorem flat_len {ts : List Th} {f : Th → List Mk3} {n : Nat} (h : ∀ t, (f t).length ≤ n) : (ts.flatMap f).length ≤ ts.length * n := by
  induction ts with
  | nil => simp
  | cons t ts ih =>
    rw [List.flatMap_cons, List.length_append, List.length_cons, Nat.succ_mul]
    have := h t
    omega
theorem marksTh_len (rs : List Ru) (t : Th) (sc : Int) : (marksTh rs t sc).length ≤ rs.length := by
  unfold marksTh
  rw [List.length_map]
  exact appL_len rs t sc
theorem ruAt_lt {rs : List Ru} {i : Nat} (h : i < rs.length) : rs[i]? = some (ruAt rs i) := by
  unfold ruAt
  rw [List.getD_eq_getElem?_getD, List.getElem?_eq_getElem h]
  rfl
theorem take_succ_flat {α β : Type} {ts : List α} {f : α → List β} {i : Nat} {t : α} (h : ts[i]? = some t) : (ts.take (i + 1)).flatMap f = (ts.take i).flatMap f ++ f t := by
  rw [List.take_add_one, h, List.flatMap_append]
  simp
section
variable {P : Program} {w : World} {K : PySem.W.Frag} {mg : Str → Option Value} {base : Heap} {Z : Cst} {C : Addr} {de : List Sl} {om : Om}
/-! marks_of -/
def R_marks_of (ds : List D) (d : D) : Prop := ∃ (ts : List Th) (rs : List Ru) (sc : Int), ts.length ≤ 60 ∧ rs.length ≤ 12 ∧ ds = [dMap ts, dSty rs, .int sc] ∧ d = .lst ((marksF ts rs sc).map dMk)
theorem marks_al (ms : List Mk3) : PySem.W.AllAlike (ms.map fun m => (dMk m).py) := PySem.W.AllAlike.of fun b b' => by
  rw [pyM, pyM]
  simp [PySem.W.alike, PySem.W.alikeAll]
theorem marks_so (ms : List Mk3) : PySem.W.Sortable (ms.map fun m => (dMk m).py) := PySem.W.Sortable.tuples fun b => ⟨_, _, pyM b⟩
theorem marks_dp (m : Mk3) : (dMk m).py.depth ≤ 20 := by
  rw [pyM]
  simp [PyData.depth, PyData.depthAll]
theorem ed_sortM {te : TE} {ms : List Mk3} {om1 : Om} (h : ED K C te de om (.lst (ms.map dMk)) om1) (hl : ms.length ≤ 100000) : ED K C (tCB (TX.rSortD K) (tCons te tNil)) de om (.lst ((ms.mergeSort (PySem.W.dataLe false fun m => (dMk m).py)).map dMk)) om1 :=
  ed_frz (en_cb (ad_cons h ad_nil) (cn_sort (fun m _ => plM m) (marks_al ms) (marks_so ms) hl fun m _ => marks_dp m))
theorem sd_marks_of {ts : List Th} {rs : List Ru} {sc : Int} (h60 : ts.length ≤ 60) (h12 : rs.length ≤ 12) : SD K C (t_marks_of K Z (spD K C R_applying_rules)) [.d (dMap ts), .d (dSty rs), .d (.int sc), .no, .no, .no] [] (fin (.lst ((marksF ts rs sc).map dMk))) := by
  have bl : ∀ i, ((ts.take i).flatMap fun t => marksTh rs t sc).length ≤ 720 := fun i => by
    have h1 := flat_len (ts := ts.take i) (f := fun t => marksTh rs t sc) (n := 12) fun t => Nat.le_trans (marksTh_len rs t sc) h12
    have h2 : (ts.take i).length ≤ 60 := by
      rw [List.length_take]
      omega
    have h3 := Nat.mul_le_mul_right 12 h2
    omega
  refine sd_seq (sd_new (en_lst ad_nil (nle rfl)) fun a => ⟨_, w3, ?_⟩)
  refine sd_seq (sd_for (il_tup v0) (fun _ => [.d (dMap ts), .d (dSty rs), .d (.int sc), .o a, .no, .no]) (fun i => [(a, .l (((ts.take i).flatMap fun t => marksTh rs t sc).map dMk))]) (by repeat constructor) (List.Sublist.refl _) (fun i d hd => ?_) ?_)
  · obtain ⟨t, ht, rfl, _⟩ := map_get hd
    refine ⟨_, _, gd_name w4, ?_⟩
    refine sd_for (il_lst (ed_call (ad_cons v1 (ad_cons v4 (ad_cons v2 ad_nil))) ⟨rs, t, sc, h12, rfl, rfl⟩)) (fun _ => [.d (dMap ts), .d (dSty rs), .d (.int sc), .o a, .d (dTh t), .no])
      (fun j => [(a, .l (((ts.take i).flatMap fun t => marksTh rs t sc).map dMk ++ ((marksTh rs t sc).take j).map dMk))]) (by repeat constructor) (by rw [List.take_zero, List.map_nil, List.append_nil]; exact List.Sublist.refl _) (fun j d hd => ?_) ?_
    · obtain ⟨k, hk, rfl, hm⟩ := map_get hd
      obtain ⟨hk1, _⟩ := appL_mem hm
      have hrk : (rs.map dRu)[k]? = some (dRu (ruAt rs k)) := by rw [List.getElem?_map, ruAt_lt hk1]; rfl
      have hmk : (marksTh rs t sc)[j]? = some ((ruAt rs k).od, k, t.nm) := by
        unfold marksTh
        rw [List.getElem?_map, hk]
        rfl
      refine ⟨_, _, gd_name w5, ?_⟩
      refine sd_app (.s (.s (.s .z))) (ed_tup (ad_cons (ed_op (ed_op v1 v5 (od_ixT (atI_of rfl hrk))) ed_int (od_ixT ix3)) (ad_cons v5 (ad_cons (ed_op v4 ed_int (od_ixT ix0)) ad_nil))) (nle rfl)) .z .z ?_ .z ⟨by repeat constructor, ?_⟩
      · rw [List.length_append, List.length_map, List.length_map]
        have h1 := bl i
        have h2 : ((marksTh rs t sc).take j).length ≤ 12 := Nat.le_trans (by
          rw [List.length_take]
          exact Nat.min_le_right _ _) (Nat.le_trans (marksTh_len rs t sc) h12)
        omega
      · rw [List.take_add_one, hmk, Option.toList_some, List.map_append, ← List.append_assoc]
        exact List.Sublist.refl _
    · refine ⟨by repeat constructor, ?_⟩
      rw [List.length_map, take_succ_flat ht, List.map_append]
      have : (appL rs t sc).length = (marksTh rs t sc).length := by unfold marksTh; rw [List.length_map]
      rw [this, List.take_length]
      exact List.Sublist.refl _
  · rw [List.length_map, List.take_length]
    refine sd_frz (.s (.s (.s .z))) .z w3 (sd_ret (ed_sortM v3 ?_) rfl)
    have := bl ts.length
    rw [List.take_length] at this
    exact Nat.le_trans this (by decide)
theorem has_marks_of (Y : FX K mg Z) (hw : Z.w = w) : Has P w K mg base 3 "marks_of" ["map_things", "style", "scale"] (spD K Z.C R_marks_of) :=
  have hR : ∀ ds d, R_marks_of ds d → ds.length = 3 := fun ds d ⟨_, _, _, _, _, e, _⟩ => by rw [e]; rfl
  ok_marks_of Y (has_applying_rules Y hw) (spD_len hR) (runP hR rfl fun ds d ⟨rs, t, sc, h, h2, e, e2⟩ => by
    subst e e2
    exact sd_marks_of h h2)
/-! doubled, centre_of -/
def R_doubled (ds : List D) (d : D) : Prop := ∃ p : Pt, ds = [dP p] ∧ d = dP (dbl p)
theorem has_doubled (Y : FX K mg Z) : Has P w K mg base 1 "doubled" ["point"] (spD K Z.C R_doubled) :=
  have hR : ∀ ds d, R_doubled ds d → ds.length = 1 := fun ds d ⟨_, e, _⟩ => by rw [e]; rfl
  ok_doubled Y (spD_len hR) (runP hR rfl fun ds d ⟨p, e, e2⟩ => by
    subst e e2
    exact sd_ret (ed_tup2 (ed_op ed_int (ed_op v0 ed_int (od_ixT ix0)) (od_mul (CMul.l (by omega)))) (ed_op ed_int (ed_op v0 ed_int (od_ixT ix1)) (od_mul (CMul.l (by omega))))) rfl)
theorem unit_at {sc : Int} (h : ScOk sc) : atI (unitsL.map D.int) sc = some (.int (unitF sc)) ∧ 1 ≤ unitF sc ∧ unitF sc ≤ 64 := by
  obtain ⟨h1, h2⟩ := h
  have : sc = 0 ∨ sc = 1 ∨ sc = 2 ∨ sc = 3 ∨ sc = 4 ∨ sc = 5 ∨ sc = 6 := by omega
  rcases this with rfl | rfl | rfl | rfl | rfl | rfl | rfl
  · exact ⟨atI_nat (j := 0) rfl, by decide, by decide⟩
  · exact ⟨atI_nat (j := 1) rfl, by decide, by decide⟩
  · exact ⟨atI_nat (j := 2) rfl, by decide, by decide⟩
  · exact ⟨atI_nat (j := 3) rfl, by decide, by decide⟩
  · exact ⟨atI_nat (j := 4) rfl, by decide, by decide⟩
  · exact ⟨atI_nat (j := 5) rfl, by decide, by decide⟩
  · exact ⟨atI_nat (j := 6) rfl, by decide, by decide⟩
def R_centre_of (ds : List D) (d : D) : Prop := ∃ sc px py : Int, ScOk sc ∧ ds = [.int sc, .int px, .int py] ∧ d = dP (ctrF sc px py)
theorem has_centre_of (Y : FX K mg Z) : Has P w K mg base 1 "centre_of" ["scale", "px", "py"] (spD K Z.C R_centre_of) :=
  have hR : ∀ ds d, R_centre_of ds d → ds.length = 3 := fun ds d ⟨_, _, _, _, e, _⟩ => by rw [e]; rfl
  ok_centre_of Y (spD_len hR) (runP hR rfl fun ds d ⟨sc, px, py, h, e, e2⟩ => by
    subst e e2
    obtain ⟨h1, h2, h3⟩ := unit_at h
    refine sd_seq (sd_asg (ed_op (ed_units Y) v0 (od_ixT h1)) w3 ?_)
    exact sd_ret (ed_tup2 (ed_op v3 (ed_op (ed_op ed_int v1 (od_mul (CMul.l (by omega)))) ed_int od_add) (od_mul (CMul.l (by omega)))) (ed_op v3 (ed_op (ed_op ed_int v2 (od_mul (CMul.l (by omega)))) ed_int od_add) (od_mul (CMul.l (by omega))))) rfl)
/-! ways_of, edges_of -/
def R_ways_of (ds : List D) (d : D) : Prop := ∃ (ps : List Pt) (b : Bool), 1 ≤ ps.length ∧ ps.length ≤ 40 ∧ ds = [dR ps, .bl b] ∧ d = .lst ((waysF ps b).map dE)
theorem zipD_map {α : Type} {f : α → D} (xs ys : List α) : zipD (xs.map f) (ys.map f) = (xs.zip ys).map fun q => .tup [f q.1, f q.2] := by
  unfold zipD
  rw [List.zip_map, List.map_map]
  rfl
theorem sd_ways_of {ps : List Pt} {b : Bool} (h1 : 1 ≤ ps.length) (h40 : ps.length ≤ 40) : SD K C (t_ways_of K Z (spD K C R_doubled)) [.d (dR ps), .d (.bl b), .no, .no] [] (fin (.lst ((waysF ps b).map dE))) := by
  have e0 : ((List.range (ps.map dP).length).map fun i => dP (dbl (atP ps i))) = (ps.map dbl).map dP := by
    apply List.ext_getElem?
    intro i
    by_cases hi : i < ps.length
    · rw [List.getElem?_map, List.getElem?_range (by rw [List.length_map]; exact hi), List.getElem?_map, List.getElem?_map, atP_get hi]
      rfl
    · rw [List.getElem?_eq_none (by simp; omega), List.getElem?_eq_none (by simp; omega)]
  have hm := en_map (K := K) (C := C) (vs := [3]) (g := gName 3) (te := tCall (spD K C R_doubled) [] E0 (tCons (tVar 3) tNil)) (il_tup (K := K) (C := C) (de := [.d (dR ps), .d (.bl b), .no, .no]) (om := []) (te := tVar 0) v0) (fun i => dP (dbl (atP ps i))) (by rw [List.length_map]; omega) fun i d hd => by
    obtain ⟨p, hp, rfl, _⟩ := map_get hd
    have hi := (List.getElem?_eq_some_iff.mp hp).1
    rw [atP_get hi] at hp
    cases hp
    exact ⟨_, _, gd_name w3, mem1 (by simp), ed_call (ad_cons v3 ad_nil) ⟨_, rfl, rfl⟩⟩
  rw [e0] at hm
  refine sd_seq (sd_new hm fun a => ⟨_, w2, ?_⟩)
  have rest : ∀ rows : List Pt, waysF ps b = rows.zip (rows.drop 1) → SD K C (tRet (TX.tLZ K (tCons (tVar 2) (tCons (tSl (rSlL K) (tVar 2) (tPart (tC (.int 1))) tNoPart) tNil)))) [.d (dR ps), .d (.bl b), .o a, .no] [(a, .l (rows.map dP))] (fin (.lst ((waysF ps b).map dE))) := fun rows e => by
    refine sd_frz (.s (.s .z)) .z w2 (sd_ret (ed_is (ed_lz (ad_cons v2 (ad_cons (en_slF (k := 1) v2 (pd_some ed_int) pd_none) ad_nil))) ?_) rfl)
    rw [← List.map_drop, zipD_map, e]
    rfl
  cases b with
  | true =>
    have hx : atI ((ps.map dbl).map dP) 0 = some (dP (dbl (atP ps 0))) := by
      refine atI_of (j := 0) rfl ?_
      rw [List.getElem?_map, List.getElem?_map, atP_get (by omega)]
      rfl
    refine sd_seq (sd_ifT (td_B v1) (sd_app (.s (.s .z)) (ed_ixO (.s (.s .z)) ed_int .z hx) .z .z (by simp; omega) .z ?_))
    have := rest (ps.map dbl ++ [dbl (atP ps 0)]) rfl
    rw [List.map_append] at this
    exact this
  | false =>
    refine sd_seq (sd_ifF (td_B v1) (sd_next ?_))
    refine rest (ps.map dbl) ?_
    unfold waysF
    rw [if_neg Bool.false_ne_true, List.append_nil]
theorem has_ways_of (Y : FX K mg Z) : Has P w K mg base 2 "ways_of" ["points", "closed"] (spD K Z.C R_ways_of) :=
  have hR : ∀ ds d, R_ways_of ds d → ds.length = 2 := fun ds d ⟨_, _, _, _, e, _⟩ => by rw [e]; rfl
  ok_ways_of Y (has_doubled Y) (spD_len hR) (runP hR rfl fun ds d ⟨ps, b, h1, h2, e, e2⟩ => by
    subst e e2
    exact sd_ways_of h1 h2)
theorem waysF_len (ps : List Pt) (b : Bool) : (waysF ps b).length ≤ ps.length + 1 := by
  unfold waysF
  rw [List.length_zip]
  refine Nat.le_trans (Nat.min_le_left _ _) ?_
  rw [List.length_append, List.length_map]
  split <;> simp
def R_edges_of (ds : List D) (d : D) : Prop := ∃ s : Sh, ShOk s ∧ (∀ p, s ≠ .pt p) ∧ ds = [dSh s] ∧ d = .lst ((wayEdges s).map dE)
theorem sd_edges_of {s : Sh} (h : ShOk s) (hn : ∀ p, s ≠ .pt p) : SD K C (t_edges_of K Z (spD K C R_ways_of)) [.d (dSh s), .no, .no] [] (fin (.lst ((wayEdges s).map dE))) := by
  cases s with
  | pt p => exact absurd rfl (hn p)
  | ln ps =>
    have h2 : 2 ≤ ps.length := LineOk.n2 h
    have h40 : ps.length ≤ 40 := LineOk.n40 h
    exact sd_seq (sd_ifT (td_is (td_test (ed_op (ed_op v0 ed_int (od_ixT ix0)) ed_str od_eqS)) rfl) (sd_ret (ed_call (ad_cons (ed_op v0 ed_int (od_ixT ix1)) (ad_cons ed_bl ad_nil)) ⟨ps, false, by omega, h40, rfl, rfl⟩) rfl))
  | ar rs =>
    obtain ⟨h1, h6, hr⟩ := h
    refine sd_seq (sd_ifF (td_is (td_test (ed_op (ed_op v0 ed_int (od_ixT ix0)) ed_str od_eqS)) (by decide)) (sd_next ?_))
    refine sd_seq (sd_new (en_lst ad_nil (nle rfl)) fun a => ⟨_, w1, ?_⟩)
    have bl : ∀ i, ((rs.take i).flatMap fun r => waysF r true).length ≤ 41 * i := fun i => by
      induction i with
      | zero => simp
      | succ i ih =>
        by_cases hi : i < rs.length
        · rw [take_succ_flat (List.getElem?_eq_getElem hi), List.length_append]
          have h3 := waysF_len rs[i] true
          have h4 := (hr rs[i] (List.getElem_mem hi)).n40
          omega
        · rw [List.take_of_length_le (by omega)]
          rw [List.take_of_length_le (by omega)] at ih
          omega
    refine sd_seq (sd_for (il_tup (ed_op v0 ed_int (od_ixT ix1))) (fun _ => [.d (dSh (.ar rs)), .o a, .no]) (fun i => [(a, .l (((rs.take i).flatMap fun r => waysF r true).map dE))]) (by repeat constructor) (List.Sublist.refl _) (fun i d hd => ?_) ?_)
    · obtain ⟨r, hg, rfl, hm⟩ := map_get hd
      have h3 := (hr r hm).n3
      have h4 := (hr r hm).n40
      have hi := (List.getElem?_eq_some_iff.mp hg).1
      refine ⟨_, _, gd_name w2, sd_ext (.s .z) (ed_call (ad_cons v2 (ad_cons ed_bl ad_nil)) ⟨r, true, by omega, h4, rfl, rfl⟩) .z .z ?_ .z ⟨by repeat constructor, ?_⟩⟩
      · rw [List.length_map, List.length_map]
        have h5 := bl i
        have h6' := waysF_len r true
        omega
      · rw [take_succ_flat hg, List.map_append]
        exact List.Sublist.refl _
    · rw [List.length_map, List.take_length]
      exact sd_frz (.s .z) .z w1 (sd_ret v1 rfl)
theorem has_edges_of (Y : FX K mg Z) : Has P w K mg base 3 "edges_of" ["shape"] (spD K Z.C R_edges_of) :=
  have hR : ∀ ds d, R_edges_of ds d → ds.length = 1 := fun ds d ⟨_, _, _, e, _⟩ => by rw [e]; rfl
  ok_edges_of Y (has_ways_of Y) (spD_len hR) (runP hR rfl fun ds d ⟨s, h1, h2, e, e2⟩ => by
    subst e e2
    exact sd_edges_of h1 h2)
end
end TA

/-! The defs, 7: is_east, is_near, the class Painter. -/
namespace TA
open PySem L2
def BdP (M : Int) (p : Pt) : Prop := (-M ≤ p.1 ∧ p.1 ≤ M) ∧ -M ≤ p.2 ∧ p.2 ≤ M
def BdE (M : Int) (e : Pt × Pt) : Prop := BdP M e.1 ∧ BdP M e.2
theorem mul_bd {a b A B : Int} (h1 : -A ≤ a ∧ a ≤ A) (h2 : -B ≤ b ∧ b ≤ B) : -(A * B) ≤ a * b ∧ a * b ≤ A * B := by
  have hA : 0 ≤ A := by omega
  have hB : 0 ≤ B := by omega
  have k : (a * b).natAbs ≤ (A * B).natAbs := by
    rw [Int.natAbs_mul, Int.natAbs_mul]
    exact Nat.mul_le_mul (by omega) (by omega)
  have k2 : 0 ≤ A * B := Int.mul_nonneg hA hB
  omega
theorem CMul.big {i j : Int} (h : -1000000000000 ≤ i ∧ i ≤ 1000000000000) : CMul i j := .inl ⟨by omega, by omega⟩
section
variable {P : Program} {w : World} {K : PySem.W.Frag} {mg : Str → Option Value} {base : Heap} {Z : Cst} {C : Addr} {de : List Sl} {om : Om}
/-! is_east -/
def R_is_east (ds : List D) (d : D) : Prop := ∃ (c : Pt) (e : Pt × Pt), BdP 300000 c ∧ BdE 2000 e ∧ ds = [dP c, dE e] ∧ d = .bl (eastF c e)
theorem sd_is_east {c : Pt} {e : Pt × Pt} (hc : BdP 300000 c) (he : BdE 2000 e) : SD K C (t_is_east K Z) [.d (dP c), .d (dE e), .no, .no, .no] [] (fin (.bl (eastF c e))) := by
  obtain ⟨⟨c1, c2⟩, c3, c4⟩ := hc
  obtain ⟨ha, hb⟩ := he
  have rest : ∀ lo hi : Pt, BdP 2000 lo → BdP 2000 hi → eastF c e = (if lo.2 ≤ c.2 ∧ c.2 < hi.2 then decide (c.1 * (hi.2 - lo.2) < lo.1 * (hi.2 - lo.2) + (hi.1 - lo.1) * (c.2 - lo.2)) else false) →
      SD K C (tSeq (tIfS (tNot (tTest (tChain rLe rL (tOp (rIxT K) (tVar 2) (tC (.int 1))) (tOp (rIxT K) (tVar 0) (tC (.int 1))) (tOp (rIxT K) (tVar 3) (tC (.int 1)))))) (tRet (tC (.bl false))) tNext)
        (tSeq (tAsg (tOp rSu (tOp (rIxT K) (tVar 3) (tC (.int 1))) (tOp (rIxT K) (tVar 2) (tC (.int 1)))) (gName 4))
        (tRet (tOp rG (tOp rAd (tOp rMu (tOp (rIxT K) (tVar 2) (tC (.int 0))) (tVar 4)) (tOp rMu (tOp rSu (tOp (rIxT K) (tVar 3) (tC (.int 0))) (tOp (rIxT K) (tVar 2) (tC (.int 0)))) (tOp rSu (tOp (rIxT K) (tVar 0) (tC (.int 1))) (tOp (rIxT K) (tVar 2) (tC (.int 1)))))) (tOp rMu (tOp (rIxT K) (tVar 0) (tC (.int 0))) (tVar 4))))))
        [.d (dP c), .d (dE e), .d (dP lo), .d (dP hi), .no] [] (fin (.bl (eastF c e))) := fun lo hi hl hh ee => by
    obtain ⟨⟨l1, l2⟩, l3, l4⟩ := hl
    obtain ⟨⟨h1, h2⟩, h3, h4⟩ := hh
    rw [ee]
    refine sd_seq (sd_if (td_not (td_test (ed_chain (ed_op v2 ed_int (od_ixT ix1)) (ed_op v0 ed_int (od_ixT ix1)) od_le (fun _ => ed_op v3 ed_int (od_ixT ix1)) fun _ => od_lt))) (fun hz => ?_) fun hz => sd_next ?_)
    · rw [if_neg fun z => by
        rw [decide_eq_true z.1, decide_eq_true z.2] at hz
        cases hz]
      exact sd_ret ed_bl rfl
    · have z : lo.2 ≤ c.2 ∧ c.2 < hi.2 := by
        have y : (decide (lo.2 ≤ c.2) && decide (c.2 < hi.2)) = true := by
          cases q : (decide (lo.2 ≤ c.2) && decide (c.2 < hi.2)) with
          | true => rfl
          | false =>
            rw [q] at hz
            cases hz
        obtain ⟨y1, y2⟩ := Bool.and_eq_true_iff.mp y
        exact ⟨of_decide_eq_true y1, of_decide_eq_true y2⟩
      rw [if_pos z]
      refine sd_seq (sd_asg (ed_op (ed_op v3 ed_int (od_ixT ix1)) (ed_op v2 ed_int (od_ixT ix1)) od_sub) w4 ?_)
      exact sd_ret (ed_op (ed_op (ed_op (ed_op v2 ed_int (od_ixT ix0)) v4 (od_mul (CMul.l (by omega)))) (ed_op (ed_op (ed_op v3 ed_int (od_ixT ix0)) (ed_op v2 ed_int (od_ixT ix0)) od_sub) (ed_op (ed_op v0 ed_int (od_ixT ix1)) (ed_op v2 ed_int (od_ixT ix1)) od_sub) (od_mul (CMul.l (by omega)))) od_add) (ed_op (ed_op v0 ed_int (od_ixT ix0)) v4 (od_mul (CMul.l (by omega)))) od_gt) rfl
  refine sd_seq (sd_asgG v1 (gd_tup (gds_cons (gd_name w2) (gds_cons (gd_name w3) gds_nil)) rfl) ?_)
  refine sd_seq (sd_if (td_test (ed_op (ed_op v2 ed_int (od_ixT ix1)) (ed_op v3 ed_int (od_ixT ix1)) od_gt)) (fun hz => sd_par (ad_cons v3 (ad_cons v2 ad_nil)) w2 w3 (rest e.2 e.1 hb ha ?_)) fun hz => sd_next (rest e.1 e.2 ha hb ?_))
  · have z : e.1.2 > e.2.2 := of_decide_eq_true hz
    unfold eastF
    simp only [if_pos z]
  · have z : ¬ e.1.2 > e.2.2 := of_decide_eq_false hz
    unfold eastF
    simp only [if_neg z]
theorem has_is_east (Y : FX K mg Z) : Has P w K mg base 1 "is_east" ["centre", "edge"] (spD K Z.C R_is_east) :=
  have hR : ∀ ds d, R_is_east ds d → ds.length = 2 := fun ds d ⟨_, _, _, _, e, _⟩ => by rw [e]; rfl
  ok_is_east Y (spD_len hR) (runP hR rfl fun ds d ⟨s, h1, h2, h3, e, e2⟩ => by
    subst e e2
    exact sd_is_east h2 h3)
/-! is_near -/
def R_is_near (ds : List D) (d : D) : Prop := ∃ (c : Pt) (e : Pt × Pt) (sq : Int), BdP 300000 c ∧ BdE 2000 e ∧ (0 ≤ sq ∧ sq ≤ 100000000) ∧ ds = [dP c, dE e, .int sq] ∧ d = .bl (nearF c e sq)
theorem sd_is_near {c : Pt} {e : Pt × Pt} {sq : Int} (hc : BdP 300000 c) (he : BdE 2000 e) (hq : 0 ≤ sq ∧ sq ≤ 100000000) : SD K C (t_is_near K Z) [.d (dP c), .d (dE e), .d (.int sq), .no, .no, .no, .no, .no, .no, .no, .no, .no] [] (fin (.bl (nearF c e sq))) := by
  obtain ⟨⟨c1, c2⟩, c3, c4⟩ := hc
  obtain ⟨⟨⟨a1, a2⟩, a3, a4⟩, ⟨b1, b2⟩, b3, b4⟩ := he
  have x1 : -4000 ≤ e.2.1 - e.1.1 ∧ e.2.1 - e.1.1 ≤ 4000 := by omega
  have x2 : -4000 ≤ e.2.2 - e.1.2 ∧ e.2.2 - e.1.2 ≤ 4000 := by omega
  have x3 : -302000 ≤ c.1 - e.1.1 ∧ c.1 - e.1.1 ≤ 302000 := by omega
  have x4 : -302000 ≤ c.2 - e.1.2 ∧ c.2 - e.1.2 ≤ 302000 := by omega
  have m1 := mul_bd x3 x2
  have m2 := mul_bd x4 x1
  refine sd_seq (sd_asgG v1 (gd_tup (gds_cons (gd_name w3) (gds_cons (gd_name w4) gds_nil)) rfl) ?_)
  refine sd_seq (sd_asg (ed_op (ed_op v4 ed_int (od_ixT ix0)) (ed_op v3 ed_int (od_ixT ix0)) od_sub) w5 ?_)
  refine sd_seq (sd_asg (ed_op (ed_op v4 ed_int (od_ixT ix1)) (ed_op v3 ed_int (od_ixT ix1)) od_sub) w6 ?_)
  refine sd_seq (sd_asg (ed_op (ed_op v0 ed_int (od_ixT ix0)) (ed_op v3 ed_int (od_ixT ix0)) od_sub) w7 ?_)
  refine sd_seq (sd_asg (ed_op (ed_op v0 ed_int (od_ixT ix1)) (ed_op v3 ed_int (od_ixT ix1)) od_sub) w8 ?_)
  refine sd_seq (sd_asg (ed_op (ed_op v5 v5 (od_mul (CMul.l (by omega)))) (ed_op v6 v6 (od_mul (CMul.l (by omega)))) od_add) w9 ?_)
  refine sd_seq (sd_asg (ed_op (ed_op v7 v5 (od_mul (CMul.l (by omega)))) (ed_op v8 v6 (od_mul (CMul.l (by omega)))) od_add) w10 ?_)
  unfold nearF
  simp only
  refine sd_seq (sd_if (td_test (ed_op v10 ed_int od_le)) (fun hz => ?_) fun hz => sd_next ?_)
  · rw [if_pos (of_decide_eq_true hz)]
    exact sd_ret (ed_op (ed_op (ed_op v7 v7 (od_mul (CMul.l (by omega)))) (ed_op v8 v8 (od_mul (CMul.l (by omega)))) od_add) v2 od_le) rfl
  rw [if_neg (of_decide_eq_false hz)]
  refine sd_seq (sd_if (td_test (ed_op v10 v9 od_ge)) (fun hy => ?_) fun hy => sd_next ?_)
  · rw [if_pos (of_decide_eq_true hy)]
    exact sd_ret (ed_op (ed_op (ed_op (ed_op v7 v5 od_sub) ed_int (od_sq (by omega))) (ed_op (ed_op v8 v6 od_sub) ed_int (od_sq (by omega))) od_add) v2 od_le) rfl
  rw [if_neg (of_decide_eq_false hy)]
  refine sd_seq (sd_asg (ed_op (ed_op v7 v6 (od_mul (CMul.l (by omega)))) (ed_op v8 v5 (od_mul (CMul.l (by omega)))) od_sub) w11 ?_)
  exact sd_ret (ed_op (ed_op v11 v11 (od_mul (CMul.big (by omega)))) (ed_op v2 v9 (od_mul (CMul.big (by omega)))) od_le) rfl
theorem has_is_near (Y : FX K mg Z) : Has P w K mg base 1 "is_near" ["centre", "edge", "square"] (spD K Z.C R_is_near) :=
  have hR : ∀ ds d, R_is_near ds d → ds.length = 3 := fun ds d ⟨_, _, _, _, _, _, e, _⟩ => by rw [e]; rfl
  ok_is_near Y (spD_len hR) (runP hR rfl fun ds d ⟨s, h1, sq, h2, h3, h4, e, e2⟩ => by
    subst e e2
    exact sd_is_near h2 h3 h4)
/-! __init__ -/
def kfs0 (l : Lk) : List (Str × D) := [("square", .int 0), ("point", dP (0, 0)), ("edges", .lst []), ("look", dLk l)]
def kfsF (l : Lk) (s : Sh) (sc : Int) : List (Str × D) := match l with
  | .fill _ => ("edges", .lst ((edF l s).map dE)) :: kfs0 l
  | .stroke _ _ => ("square", .int (sqF l sc)) :: ("edges", .lst ((edF l s).map dE)) :: kfs0 l
  | .dot _ _ => ("square", .int (sqF l sc)) :: ("point", dP (ptF l s)) :: kfs0 l
def R_init (ds : List D) (kfs : List (Str × D)) : Prop := ∃ (l : Lk) (s : Sh) (sc : Int), ShOk s ∧ LkOk l ∧ ScOk sc ∧ fitF l s = true ∧ ds = [dLk l, dSh s, .int sc] ∧ kfs = kfsF l s sc
theorem na_of (Y : FX K mg Z) (f : Str) (h : f ∈ (["look", "edges", "point", "square"] : List Str)) : NoAttr K Z.C f := Y.na f h
theorem sd_init (Y : FX K mg Z) {l : Lk} {s : Sh} {sc : Int} {st : Addr} (hs : ShOk s) (hl : LkOk l) (hsc : ScOk sc) (hf : fitF l s = true) :
    SD K Z.C (t___init__ K Z (spD K Z.C R_doubled) (spD K Z.C R_edges_of)) [.o st, .d (dLk l), .d (dSh s), .d (.int sc), .no] [(st, .ob [])] ⟨fun _ om => OmAt om st (.ob (kfsF l s sc)), fun _ _ => False, fun _ _ => False, fun _ _ => False⟩ := by
  obtain ⟨u1, u2, u3⟩ := unit_at hsc
  refine sd_seq (sd_fld Y.cls (na_of Y _ (by simp)) .z v1 .z (nle rfl) (by decide) .z ?_)
  refine sd_seq (sd_asg (ed_op (ed_units Y) v3 (od_ixT u1)) w4 ?_)
  refine sd_seq (sd_fld Y.cls (na_of Y _ (by simp)) .z (ed_frz (en_lst ad_nil (nle rfl))) .z (nle rfl) (by decide) .z ?_)
  refine sd_seq (sd_fld Y.cls (na_of Y _ (by simp)) .z (ed_tup2 ed_int ed_int) .z (nle rfl) (by decide) .z ?_)
  refine sd_seq (sd_fld Y.cls (na_of Y _ (by simp)) .z ed_int .z (nle rfl) (by decide) .z ?_)
  cases l with
  | fill c =>
    refine sd_ifF (td_is (td_test (ed_op (ed_op v1 ed_int (od_ixT ix0)) ed_str od_eqS)) (by decide)) ?_
    refine sd_seq (sd_fld Y.cls (na_of Y _ (by simp)) .z (ed_call (ad_cons v2 ad_nil) ⟨s, hs, (fun p e => by rw [e] at hf; cases hf), rfl, rfl⟩) .z (nle rfl) (by decide) .z ?_)
    exact sd_ifF (td_is (td_test (ed_op (ed_op v1 ed_int (od_ixT ix0)) ed_str od_eqS)) (by decide)) (sd_next .z)
  | stroke c z =>
    obtain ⟨_, z1, z2⟩ := hl
    refine sd_ifF (td_is (td_test (ed_op (ed_op v1 ed_int (od_ixT ix0)) ed_str od_eqS)) (by decide)) ?_
    refine sd_seq (sd_fld Y.cls (na_of Y _ (by simp)) .z (ed_call (ad_cons v2 ad_nil) ⟨s, hs, (fun p e => by rw [e] at hf; cases hf), rfl, rfl⟩) .z (nle rfl) (by decide) .z ?_)
    have m := mul_bd (a := unitF sc) (b := z) (A := 64) (B := 16) (by omega) (by omega)
    exact sd_ifT (td_is (td_test (ed_op (ed_op v1 ed_int (od_ixT ix0)) ed_str od_eqS)) rfl) (sd_fld Y.cls (na_of Y _ (by simp)) .z (ed_op (ed_op v4 (ed_op v1 ed_int (od_ixT ix2)) (od_mul (CMul.l (by omega)))) ed_int (od_sq (by omega))) .z (nle rfl) (by decide) .z .z)
  | dot c z =>
    obtain ⟨_, z1, z2⟩ := hl
    cases s with
    | pt p =>
      have m := mul_bd (a := 2 * unitF sc) (b := z) (A := 128) (B := 16) (by omega) (by omega)
      refine sd_ifT (td_is (td_test (ed_op (ed_op v1 ed_int (od_ixT ix0)) ed_str od_eqS)) rfl) ?_
      refine sd_seq (sd_fld Y.cls (na_of Y _ (by simp)) .z (ed_call (ad_cons (ed_op v2 ed_int (od_ixT ix1)) ad_nil) ⟨p, rfl, rfl⟩) .z (nle rfl) (by decide) .z ?_)
      exact sd_fld Y.cls (na_of Y _ (by simp)) .z (ed_op (ed_op (ed_op ed_int v4 (od_mul (CMul.l (by omega)))) (ed_op v1 ed_int (od_ixT ix2)) (od_mul (CMul.l (by omega)))) ed_int (od_sq (by omega))) .z (nle rfl) (by decide) .z .z
    | ln ps => cases hf
    | ar rs => cases hf
theorem spI_len {R : List D → List (Str × D) → Prop} {n : Nat} (h : ∀ ds d, R ds d → ds.length = n) : ∀ vs H Q E, spI K C R vs H Q E → vs.length = n + 1 := fun vs H Q E ⟨G, st, ws, ds, kfs, e, _, _, _, r, hR, _⟩ => by
  rw [e, List.length_cons, r.len, h ds kfs hR]
theorem has_init (Y : FX K mg Z) : HasMk P w K mg base Z.C 4 "Painter" ["self", "look", "shape", "scale"] (spI K Z.C R_init) :=
  have hR : ∀ ds kfs, R_init ds kfs → ds.length = 3 := fun ds d ⟨_, _, _, _, _, _, _, e, _⟩ => by rw [e]; rfl
  ok___init__ Y (has_doubled Y) (has_edges_of Y) (spI_len hR) (fn_init (fun ds kfs h => by rw [hR ds kfs h]; exact nle rfl) fun st ds kfs ⟨l, s, sc, h1, h2, h3, h4, e, e2⟩ => by
    subst e e2
    exact sd_init Y h1 h2 h3 h4)
/-! covers -/
def pntD (l : Lk) (s : Sh) (sc : Int) : D := .pnt (dLk l) (.lst ((edF l s).map dE)) (dP (ptF l s)) (sqF l sc)
theorem kfs_look (l : Lk) (s : Sh) (sc : Int) : (kfsF l s sc).lookup ("look" : Str) = some (dLk l) := by cases l <;> rfl
theorem kfs_edges (l : Lk) (s : Sh) (sc : Int) : (kfsF l s sc).lookup ("edges" : Str) = some (.lst ((edF l s).map dE)) := by cases l <;> rfl
theorem kfs_point (l : Lk) (s : Sh) (sc : Int) : (kfsF l s sc).lookup ("point" : Str) = some (dP (ptF l s)) := by cases l <;> rfl
theorem kfs_square (l : Lk) (s : Sh) (sc : Int) : (kfsF l s sc).lookup ("square" : Str) = some (.int (sqF l sc)) := by cases l <;> rfl
theorem dbl_bd {p : Pt} (h : PtOk p) : BdP 2000 (dbl p) := by
  obtain ⟨⟨a, b⟩, c, d⟩ := h
  unfold dbl BdP
  simp only
  omega
theorem ways_bd {ps : List Pt} {b : Bool} (h : ∀ p ∈ ps, PtOk p) (h1 : 1 ≤ ps.length) : ∀ e ∈ waysF ps b, BdE 2000 e := by
  intro e he
  unfold waysF at he
  have key : ∀ q ∈ ps.map dbl ++ (if b = true then [dbl (atP ps 0)] else []), BdP 2000 q := by
    intro q hq
    rcases List.mem_append.mp hq with z | z
    · obtain ⟨p, hp, rfl⟩ := List.mem_map.mp z
      exact dbl_bd (h p hp)
    · split at z
      · rw [List.mem_singleton.mp z]
        exact dbl_bd (h _ (atP_mem (by omega)))
      · cases z
  have h2 := List.of_mem_zip (a := e.1) (b := e.2) he
  exact ⟨key _ h2.1, key _ (List.mem_of_mem_drop h2.2)⟩
theorem edges_bd {s : Sh} (h : ShOk s) : ∀ e ∈ wayEdges s, BdE 2000 e := by
  cases s with
  | pt p => intro e he; cases he
  | ln ps => exact ways_bd (LineOk.pts h) (by have := LineOk.n2 h; omega)
  | ar rs =>
    obtain ⟨_, _, hr⟩ := h
    intro e he
    obtain ⟨r, hr1, hr2⟩ := List.mem_flatMap.mp he
    exact ways_bd (hr r hr1).pts (by have := (hr r hr1).n3; omega) e hr2
def eAt (l : List (Pt × Pt)) (i : Nat) : Pt × Pt := l.getD i ((0, 0), (0, 0))
theorem eAt_get {l : List (Pt × Pt)} {i : Nat} {e : Pt × Pt} (h : l[i]? = some e) : eAt l i = e := by
  unfold eAt
  rw [List.getD_eq_getElem?_getD, h]
  rfl
theorem range_eAt (l : List (Pt × Pt)) : (List.range l.length).map (eAt l) = l := by
  apply List.ext_getElem?
  intro i
  by_cases hi : i < l.length
  · rw [List.getElem?_map, List.getElem?_range hi, List.getElem?_eq_getElem hi]
    exact congrArg some (eAt_get (List.getElem?_eq_getElem hi))
  · rw [List.getElem?_eq_none (by simp; omega), List.getElem?_eq_none (by omega)]
theorem any_eAt (l : List (Pt × Pt)) (p : Pt × Pt → Bool) : (List.range l.length).any (fun i => p (eAt l i)) = l.any p := by
  have h := congrArg (fun z => z.any p) (range_eAt l)
  rw [← h, List.any_map]
  rfl
theorem filter_eAt (l : List (Pt × Pt)) (p : Pt × Pt → Bool) : ((List.range l.length).filter fun i => p (eAt l i)).length = (l.filter p).length := by
  have h := congrArg (fun z => (z.filter p).length) (range_eAt l)
  rw [← h]
  show _ = (((List.range l.length).map (eAt l)).filter p).length
  rw [List.filter_map, List.length_map]
  rfl
theorem sq_bd {l : Lk} {sc : Int} (hl : LkOk l) (hsc : ScOk sc) : 0 ≤ sqF l sc ∧ sqF l sc ≤ 100000000 := by
  obtain ⟨_, u2, u3⟩ := unit_at hsc
  cases l with
  | fill c => exact ⟨Int.le_refl _, show (0 : Int) ≤ 100000000 by decide⟩
  | stroke c z =>
    obtain ⟨_, z1, z2⟩ := hl
    have m := mul_bd (a := unitF sc) (b := z) (A := 64) (B := 16) (by omega) (by omega)
    have m2 := mul_bd (a := unitF sc * z) (b := unitF sc * z) (A := 1024) (B := 1024) (by omega) (by omega)
    have m3 : 0 ≤ unitF sc * z * (unitF sc * z) := by
      have : 0 ≤ unitF sc * z := Int.mul_nonneg (by omega) (by omega)
      exact Int.mul_nonneg this this
    unfold sqF
    simp only
    omega
  | dot c z =>
    obtain ⟨_, z1, z2⟩ := hl
    have m := mul_bd (a := 2 * unitF sc) (b := z) (A := 128) (B := 16) (by omega) (by omega)
    have m2 := mul_bd (a := 2 * unitF sc * z) (b := 2 * unitF sc * z) (A := 2048) (B := 2048) (by omega) (by omega)
    have m3 : 0 ≤ 2 * unitF sc * z * (2 * unitF sc * z) := by
      have : 0 ≤ 2 * unitF sc * z := Int.mul_nonneg (by omega) (by omega)
      exact Int.mul_nonneg this this
    unfold sqF
    simp only
    omega
def R_covers (ds : List D) (d : D) : Prop := ∃ (l : Lk) (s : Sh) (sc : Int) (c : Pt), ShOk s ∧ LkOk l ∧ ScOk sc ∧ fitF l s = true ∧ BdP 300000 c ∧ ds = [pntD l s sc, dP c] ∧ d = .bl (covF l s sc c)
theorem wayE_len {s : Sh} (h : ShOk s) : (wayEdges s).length ≤ 1000 := by
  cases s with
  | pt p => exact Nat.zero_le _
  | ln ps =>
    have h1 := waysF_len ps false
    have h2 := LineOk.n40 h
    exact Nat.le_trans h1 (by omega)
  | ar rs =>
    obtain ⟨_, h6, hr⟩ := h
    have : ∀ l : List (List Pt), (∀ r ∈ l, r.length ≤ 40) → (l.flatMap fun r => waysF r true).length ≤ 41 * l.length := by
      intro l
      induction l with
      | nil => intro _; simp
      | cons r l ih =>
        intro hl
        rw [List.flatMap_cons, List.length_append, List.length_cons]
        have h1 := waysF_len r true
        have h2 := hl r List.mem_cons_self
        have h3 := ih fun r hr => hl r (List.mem_cons_of_mem _ hr)
        omega
    have h3 := this rs fun r h => (hr r h).n40
    exact Nat.le_trans h3 (by omega)
theorem sd_covers (Y : FX K mg Z) {l : Lk} {s : Sh} {sc : Int} {c : Pt} (hs : ShOk s) (hl : LkOk l) (hsc : ScOk sc) (hf : fitF l s = true) (hc : BdP 300000 c) :
    SD K Z.C (t_covers K Z (spD K Z.C R_is_east) (spD K Z.C R_is_near)) [.d (pntD l s sc), .d (dP c), .no, .no, .no] [] (fin (.bl (covF l s sc c))) := by
  have nl : NoAttr K Z.C "look" := na_of Y _ (by simp)
  have ne : NoAttr K Z.C "edges" := na_of Y _ (by simp)
  have np : NoAttr K Z.C "point" := na_of Y _ (by simp)
  have ns : NoAttr K Z.C "square" := na_of Y _ (by simp)
  have hq := sq_bd hl hsc
  have hlen := wayE_len hs
  cases l with
  | fill col =>
    refine sd_seq (sd_ifT (td_is (td_test (ed_op (ed_op (ed_look Y.cls nl v0) ed_int (od_ixT ix0)) ed_str od_eqS)) rfl) ?_)
    have q := en_lc (K := K) (C := Z.C) (vs := [4]) (g := gName 4) (tt := tB (tCall (spD K Z.C R_is_east) [] E0 (tCons (tVar 1) (tCons (tVar 4) tNil)))) (te := tVar 4) (il_lst (K := K) (C := Z.C) (de := [.d (pntD (.fill col) s sc), .d (dP c), .no, .no, .no]) (om := []) (te := tFld K (tVar 0) "edges") (ed_edges Y.cls ne v0))
      (fun i => eastF c (eAt (wayEdges s) i)) (fun i => dE (eAt (wayEdges s) i)) (fun _ => []) rfl (by rw [List.length_map]; exact Nat.le_trans hlen (by decide)) fun i d hd => by
        obtain ⟨e, he, rfl, hm⟩ := map_get hd
        have he' : (wayEdges s)[i]? = some e := he
        have ee := eAt_get he'
        refine ⟨_, _, gd_name w4, mem1 (by simp), ?_, ?_⟩
        · rw [ee]
          exact td_B (ed_call (ad_cons v1 (ad_cons v4 ad_nil)) ⟨c, e, hc, edges_bd hs e hm, rfl, rfl⟩)
        · rw [ee]
          split
          · exact v4
          · rfl
    rw [gen_eq, List.length_map] at q
    refine sd_ret (ed_is (ed_op (ed_op (ed_lenL (ed_frz q)) ed_int (od_mod (by decide))) ed_int od_eqI) ?_) rfl
    rw [List.length_map]
    have e1 : ((List.range (edF (.fill col) s).length).filter fun i => eastF c (eAt (wayEdges s) i)).length = ((wayEdges s).filter fun e => eastF c e).length := filter_eAt (wayEdges s) fun e => eastF c e
    rw [e1]
    show D.bl (decide _) = D.bl (decide _)
    congr 1
    rw [Bool.eq_iff_iff, decide_eq_true_eq, decide_eq_true_eq]
    omega
  | stroke col z =>
    refine sd_seq (sd_ifF (td_is (td_test (ed_op (ed_op (ed_look Y.cls nl v0) ed_int (od_ixT ix0)) ed_str od_eqS)) (by decide)) (sd_next ?_))
    refine sd_seq (sd_ifT (td_is (td_test (ed_op (ed_op (ed_look Y.cls nl v0) ed_int (od_ixT ix0)) ed_str od_eqS)) rfl) ?_)
    refine sd_ret (ed_is (ed_anyF (il_lst (ed_edges Y.cls ne v0)) (fun i => nearF c (eAt (wayEdges s) i) (sqF (.stroke col z) sc)) (by rw [List.length_map]; exact Nat.le_trans hlen (by decide)) fun i d hd => ?_) ?_) rfl
    · obtain ⟨e, he, rfl, hm⟩ := map_get hd
      have he' : (wayEdges s)[i]? = some e := he
      have ee := eAt_get he'
      rw [ee]
      exact ⟨_, _, gd_name w4, mem1 (by simp), ed_call (ad_cons v1 (ad_cons v4 (ad_cons (ed_square Y.cls ns v0) ad_nil))) ⟨c, e, _, hc, edges_bd hs e hm, hq, rfl, rfl⟩⟩
    · rw [List.length_map]
      exact congrArg D.bl (any_eAt (wayEdges s) fun e => nearF c e (sqF (.stroke col z) sc))
  | dot col z =>
    cases s with
    | pt p =>
      have hp := dbl_bd (show PtOk p from hs)
      obtain ⟨⟨p1, p2⟩, p3, p4⟩ := hp
      obtain ⟨⟨c1, c2⟩, c3, c4⟩ := hc
      refine sd_seq (sd_ifF (td_is (td_test (ed_op (ed_op (ed_look Y.cls nl v0) ed_int (od_ixT ix0)) ed_str od_eqS)) (by decide)) (sd_next ?_))
      refine sd_seq (sd_ifF (td_is (td_test (ed_op (ed_op (ed_look Y.cls nl v0) ed_int (od_ixT ix0)) ed_str od_eqS)) (by decide)) (sd_next ?_))
      refine sd_seq (sd_asg (ed_op (ed_op v1 ed_int (od_ixT ix0)) (ed_op (ed_point Y.cls np v0) ed_int (od_ixT ix0)) od_sub) w2 ?_)
      refine sd_seq (sd_asg (ed_op (ed_op v1 ed_int (od_ixT ix1)) (ed_op (ed_point Y.cls np v0) ed_int (od_ixT ix1)) od_sub) w3 ?_)
      refine sd_ret (ed_op (ed_op (ed_op v2 v2 (od_mul (CMul.l ?_))) (ed_op v3 v3 (od_mul (CMul.l ?_))) od_add) (ed_square Y.cls ns v0) od_le) rfl
      · show -1000000 ≤ c.1 - (dbl p).1 ∧ c.1 - (dbl p).1 ≤ 1000000
        omega
      · show -1000000 ≤ c.2 - (dbl p).2 ∧ c.2 - (dbl p).2 ≤ 1000000
        omega
    | ln ps => cases hf
    | ar rs => cases hf
theorem has_covers (Y : FX K mg Z) : HasMt P w K mg base Z.C 2 "covers" ["self", "centre"] (spD K Z.C R_covers) :=
  have hR : ∀ ds d, R_covers ds d → ds.length = 2 := fun ds d ⟨_, _, _, _, _, _, _, _, _, e, _⟩ => by rw [e]; rfl
  ok_covers Y (has_is_east Y) (has_is_near Y) (spD_len hR) (runP hR rfl fun ds d ⟨l, s, sc, c, h1, h2, h3, h4, h5, e, e2⟩ => by
    subst e e2
    exact sd_covers Y h1 h2 h3 h4 h5)
end
end TA

/-! The defs, 8: painters, pictures. -/
namespace TA
open PySem L2
theorem thAt_get {ts : List Th} {i : Nat} {t : Th} (h : ts[i]? = some t) : thAt ts i = t := by
  unfold thAt
  rw [List.getD_eq_getElem?_getD, h]
  rfl
theorem kfR_lookup {β : Type} {key : Nat → Str} {val : Nat → β} {N : Nat} (inj : ∀ i j, i < N → j < N → key i = key j → i = j) : ∀ n, n ≤ N → ∀ i, i < n → (kfR key val n).lookup (key i) = some (val i)
  | 0, _, _, h => absurd h (Nat.not_lt_zero _)
  | n + 1, hn, i, hi => by
    unfold kfR
    rw [lk_cons]
    by_cases h : key i = key n
    · have e := inj i n (by omega) (by omega) h
      rw [if_pos h, e]
    · rw [if_neg h]
      have hne : i ≠ n := fun e => h (by rw [e])
      exact kfR_lookup inj n (by omega) i (by omega)
theorem key_inj {ts : List Th} (h : (ts.map Th.nm).Nodup) : ∀ i j, i < ts.length → j < ts.length → (thAt ts i).nm = (thAt ts j).nm → i = j := by
  intro i j hi hj e
  have gi : (ts.map Th.nm)[i]? = some (thAt ts i).nm := by rw [List.getElem?_map, List.getElem?_eq_getElem hi, thAt_get (List.getElem?_eq_getElem hi)]; rfl
  have gj : (ts.map Th.nm)[j]? = some (thAt ts j).nm := by rw [List.getElem?_map, List.getElem?_eq_getElem hj, thAt_get (List.getElem?_eq_getElem hj)]; rfl
  exact (List.getElem?_inj (by rw [List.length_map]; exact hi) h).mp (gi.trans ((congrArg some e).trans gj.symm))
theorem shOf_of {ts : List Th} (h : (ts.map Th.nm).Nodup) {t : Th} (ht : t ∈ ts) : shOf ts t.nm = t.sh ∧ (kfR (fun i => (thAt ts i).nm) (fun i => dSh (thAt ts i).sh) ts.length).lookup t.nm = some (dSh t.sh) := by
  obtain ⟨i, hi⟩ := List.mem_iff_getElem?.mp ht
  have hil := (List.getElem?_eq_some_iff.mp hi).1
  have e := thAt_get hi
  have a := kfR_lookup (val := fun i => (thAt ts i).sh) (key_inj h) ts.length (Nat.le_refl _) i hil
  have b := kfR_lookup (val := fun i => dSh (thAt ts i).sh) (key_inj h) ts.length (Nat.le_refl _) i hil
  simp only [e] at a b
  refine ⟨?_, b⟩
  unfold shOf
  rw [a]
  rfl
/-- what a mark tells -/
structure MkOk (ts : List Th) (rs : List Ru) (sc : Int) (m : Mk3) : Prop where
  at_ : m.2.1 < rs.length
  th : ∃ t ∈ ts, m.2.2 = t.nm ∧ appB (ruAt rs m.2.1) t sc = true
theorem marks_ok {ts : List Th} {rs : List Ru} {sc : Int} : ∀ m ∈ marksF ts rs sc, MkOk ts rs sc m := by
  intro m hm
  have h1 : m ∈ marks0 ts rs sc := List.mem_mergeSort.mp hm
  obtain ⟨t, ht, h2⟩ := List.mem_flatMap.mp h1
  obtain ⟨i, hi, rfl⟩ := List.mem_map.mp h2
  obtain ⟨a, b⟩ := appL_mem hi
  exact ⟨a, t, ht, rfl, b⟩
theorem MkOk.look {ts : List Th} {rs : List Ru} {sc : Int} {m : Mk3} (h : MkOk ts rs sc m) (hr : StyOk rs) : LkOk (lkAt rs m.2.1) := (hr.each _ (List.mem_of_getElem? (ruAt_lt h.at_))).lk
theorem MkOk.shape {ts : List Th} {rs : List Ru} {sc : Int} {m : Mk3} (h : MkOk ts rs sc m) (ht : MapOk ts) : ShOk (shOf ts m.2.2) ∧ fitF (lkAt rs m.2.1) (shOf ts m.2.2) = true ∧ (kfR (fun i => (thAt ts i).nm) (fun i => dSh (thAt ts i).sh) ts.length).lookup m.2.2 = some (dSh (shOf ts m.2.2)) := by
  obtain ⟨t, hm, e, a⟩ := h.th
  obtain ⟨s1, s2⟩ := shOf_of ht.nd hm
  rw [e, s1]
  refine ⟨(ht.each t hm).sh, ?_, s2⟩
  unfold appB at a
  exact (Bool.and_eq_true_iff.mp a).2
def dPt (ts : List Th) (rs : List Ru) (sc : Int) (m : Mk3) : D := .tup [pntD (lkAt rs m.2.1) (shOf ts m.2.2) sc, .str m.2.2]
section
variable {P : Program} {w : World} {K : PySem.W.Frag} {mg : Str → Option Value} {base : Heap} {Z : Cst} {C : Addr} {de : List Sl} {om : Om}
theorem marksF_len {ts : List Th} {rs : List Ru} {sc : Int} (h60 : ts.length ≤ 60) (h12 : rs.length ≤ 12) : (marksF ts rs sc).length ≤ 720 := by
  unfold marksF marks0
  rw [List.length_mergeSort]
  have h1 := flat_len (ts := ts) (f := fun t => marksTh rs t sc) (n := 12) fun t => Nat.le_trans (marksTh_len rs t sc) h12
  have h3 := Nat.mul_le_mul_right 12 h60
  omega
def R_painters_of (ds : List D) (d : D) : Prop := ∃ (ts : List Th) (rs : List Ru) (sc : Int), MapOk ts ∧ StyOk rs ∧ ScOk sc ∧ ds = [dMap ts, dSty rs, .int sc] ∧ d = .lst ((marksF ts rs sc).reverse.map (dPt ts rs sc))
theorem sd_painters_of (Y : FX K mg Z) {ts : List Th} {rs : List Ru} {sc : Int} (ht : MapOk ts) (hr : StyOk rs) (hs : ScOk sc) : SD K Z.C (t_painters_of K Z (spD K Z.C R_marks_of) (spI K Z.C R_init)) [.d (dMap ts), .d (dSty rs), .d (.int sc), .no, .no, .no, .no, .no, .no] [] (fin (.lst ((marksF ts rs sc).reverse.map (dPt ts rs sc)))) := by
  have h60 := ht.n
  have h12 := hr.n
  have hml := marksF_len (sc := sc) h60 h12
  refine sd_seq (sd_newK (ek_dc (il_tup v0) (fun i => (thAt ts i).nm) (fun i => dSh (thAt ts i).sh) (kfR _ _) rfl (fun _ => rfl) (by rw [List.length_map]; omega) fun i d hd => ?_) fun a => ⟨_, w3, ?_⟩)
  · obtain ⟨t, hg, rfl, _⟩ := map_get hd
    rw [thAt_get hg]
    exact ⟨_, _, gd_name w8, mem1 (by simp), ed_op v8 ed_int (od_ixT ix0), ed_op v8 ed_int (od_ixT ix2)⟩
  rw [List.length_map]
  refine sd_seq (sd_new (en_lst ad_nil (nle rfl)) fun b => ⟨_, w4, ?_⟩)
  refine sd_seq (sd_for (il_lst (ed_call (ad_cons v0 (ad_cons v1 (ad_cons v2 ad_nil))) ⟨ts, rs, sc, h60, h12, rfl, rfl⟩)) (fun _ => [.d (dMap ts), .d (dSty rs), .d (.int sc), .o a, .o b, .no, .no, .no, .no])
    (fun i => [(a, .k (kfR (fun i => (thAt ts i).nm) (fun i => dSh (thAt ts i).sh) ts.length)), (b, .l (((marksF ts rs sc).take i).map (dPt ts rs sc)))]) (by repeat constructor) (List.Sublist.refl _) (fun i d hd => ?_) ?_)
  · obtain ⟨m, hg, rfl, hm⟩ := map_get hd
    have hi := (List.getElem?_eq_some_iff.mp hg).1
    have mk := marks_ok m hm
    obtain ⟨q1, q2, q3⟩ := mk.shape ht
    have hrk : (rs.map dRu)[m.2.1]? = some (dRu (ruAt rs m.2.1)) := by rw [List.getElem?_map, ruAt_lt mk.at_]; rfl
    refine ⟨_, _, gd_tup (gds_cons (gd_name w5) (gds_cons (gd_name w6) (gds_cons (gd_name w7) gds_nil))) rfl, ?_⟩
    refine sd_app (.s (.s (.s (.s .z)))) (ed_tup2 (ed_make (ad_cons (ed_op (ed_op v1 v6 (od_ixT (atI_of rfl hrk))) ed_int (od_ixT ix4)) (ad_cons (ed_dget (.s (.s (.s .z))) v7 .z q3) (ad_cons v2 ad_nil))) ⟨lkAt rs m.2.1, shOf ts m.2.2, sc, q1, mk.look hr, hs, q2, rfl, rfl⟩ (kfs_look _ _ _) (kfs_edges _ _ _) (kfs_point _ _ _) (kfs_square _ _ _)) v7) (.s .z) (.s .z) ?_ (.s .z) ⟨by repeat constructor, ?_⟩
    · rw [List.length_map, List.length_take]
      omega
    · rw [List.take_add_one, hg, Option.toList_some, List.map_append]
      exact List.Sublist.refl _
  · rw [List.length_map, List.take_length]
    refine sd_frz (.s (.s (.s (.s .z)))) (.s .z) w4 (sd_ret (ed_rev v4) ?_)
    rw [← List.map_reverse]
theorem has_painters_of (Y : FX K mg Z) (hw : Z.w = w) : Has P w K mg base 6 "painters_of" ["map_things", "style", "scale"] (spD K Z.C R_painters_of) :=
  have hR : ∀ ds d, R_painters_of ds d → ds.length = 3 := fun ds d ⟨_, _, _, _, _, _, e, _⟩ => by rw [e]; rfl
  ok_painters_of Y (has_marks_of Y hw) (has_init Y) (spD_len hR) (runP hR rfl fun ds d ⟨ts, rs, sc, h1, h2, h3, e, e2⟩ => by
    subst e e2
    exact sd_painters_of Y h1 h2 h3)
/-! highest -/
def hiD (rs : List Ru) : Option Mk3 → D
  | some m => .tup [.int (colF (lkAt rs m.2.1)), .str m.2.2]
  | none => .tup [.int 0, .non]
def hiF (ts : List Th) (rs : List Ru) (sc : Int) (ms : List Mk3) (c : Pt) : Option Mk3 := ms.find? fun m => covF (lkAt rs m.2.1) (shOf ts m.2.2) sc c
def R_highest (ds : List D) (d : D) : Prop := ∃ (ts : List Th) (rs : List Ru) (sc : Int) (ms : List Mk3) (c : Pt), MapOk ts ∧ StyOk rs ∧ ScOk sc ∧ (∀ m ∈ ms, MkOk ts rs sc m) ∧ BdP 300000 c ∧ ds = [.lst (ms.map (dPt ts rs sc)), dP c] ∧ d = hiD rs (hiF ts rs sc ms c)
theorem ed_lkC {te : TE} {l : Lk} (h : ED K C te de om (dLk l) om) : ED K C (tOp (rIxT K) te (tC (.int 1))) de om (.int (colF l)) om := by
  cases l <;> exact ed_op h ed_int (od_ixT ix1)
theorem sd_highest (Y : FX K mg Z) {ts : List Th} {rs : List Ru} {sc : Int} {ms : List Mk3} {c : Pt} (ht : MapOk ts) (hr : StyOk rs) (hs : ScOk sc) (hm : ∀ m ∈ ms, MkOk ts rs sc m) (hc : BdP 300000 c) :
    SD K Z.C (t_highest K Z (spD K Z.C R_covers)) [.d (.lst (ms.map (dPt ts rs sc))), .d (dP c), .no, .no] [] (fin (hiD rs (hiF ts rs sc ms c))) := by
  refine sd_seq (sd_forP (il_lst v0) (fun i => ∀ (j : Nat) (m : Mk3), j < i → ms[j]? = some m → covF (lkAt rs m.2.1) (shOf ts m.2.2) sc c = false) (fun _ => [.d (.lst (ms.map (dPt ts rs sc))), .d (dP c), .no, .no]) (fun _ => []) (by repeat constructor) (List.Sublist.refl _) (fun j m hj => absurd hj (Nat.not_lt_zero _)) (fun i d hd ki => ?_) (fun kn => ?_))
  · obtain ⟨m, hg, rfl, hmm⟩ := map_get hd
    have mk := hm m hmm
    obtain ⟨q1, q2, _⟩ := mk.shape ht
    refine ⟨_, _, gd_tup (gds_cons (gd_name w2) (gds_cons (gd_name w3) gds_nil)) rfl, ?_⟩
    refine sd_if (td_B (ed_meth v2 (ad_cons v1 ad_nil) ⟨lkAt rs m.2.1, shOf ts m.2.2, sc, c, q1, mk.look hr, hs, q2, hc, rfl, rfl⟩)) (fun hz => ?_) fun hz => ?_
    · refine sd_ret (ed_tup2 (ed_lkC (ed_look Y.cls (na_of Y _ (by simp)) v2)) v3) ?_
      have hfind : hiF ts rs sc ms c = some m := by
        obtain ⟨hil, hie⟩ := List.getElem?_eq_some_iff.mp hg
        refine List.find?_eq_some_iff_getElem.mpr ⟨hz, i, hil, hie, fun j hj => ?_⟩
        have hjl : j < ms.length := Nat.lt_trans hj hil
        rw [ki j _ hj (List.getElem?_eq_getElem hjl)]
        rfl
      rw [hfind]
      rfl
    · refine sd_next ⟨fun j m' hj hm' => ?_, by repeat constructor, List.Sublist.refl _⟩
      rcases Nat.lt_or_ge j i with y | y
      · exact ki j m' y hm'
      · have ej : j = i := by omega
        subst ej
        rw [hg] at hm'
        cases hm'
        exact hz
  · refine sd_ret (ed_tup2 ed_int ed_non) ?_
    have hfind : hiF ts rs sc ms c = none := by
      refine List.find?_eq_none.mpr fun m hm => ?_
      obtain ⟨j, hj⟩ := List.mem_iff_getElem?.mp hm
      rw [kn j m (by rw [List.length_map]; exact (List.getElem?_eq_some_iff.mp hj).1) hj]
      exact Bool.false_ne_true
    rw [hfind]
    rfl
theorem has_highest (Y : FX K mg Z) : Has P w K mg base 3 "highest" ["painters", "centre"] (spD K Z.C R_highest) :=
  have hR : ∀ ds d, R_highest ds d → ds.length = 2 := fun ds d ⟨_, _, _, _, _, _, _, _, _, _, e, _⟩ => by rw [e]; rfl
  ok_highest Y (has_covers Y) (spD_len hR) (runP hR rfl fun ds d ⟨ts, rs, sc, ms, c, h1, h2, h3, h4, h5, e, e2⟩ => by
    subst e e2
    exact sd_highest Y h1 h2 h3 h4 h5)
/-! windows, pictures -/
structure WinOk (left low : Int) (w h : Nat) : Prop where
  l0 : -2048 ≤ left
  l1 : left + (w : Nat) - 1 ≤ 2047
  b0 : -2048 ≤ low
  b1 : low + (h : Nat) - 1 ≤ 2047
  w0 : 1 ≤ w
  w1 : w ≤ 48
  h0 : 1 ≤ h
  h1 : h ≤ 48
def dWin (left low : Int) (w h : Nat) : D := .tup [.int left, .int low, .int (w : Nat), .int (h : Nat)]
def R_is_window (ds : List D) (d : D) : Prop := ∃ (left low : Int) (w h : Nat), WinOk left low w h ∧ ds = [dWin left low w h] ∧ d = .bl true
theorem has_is_window (Y : FX K mg Z) : Has P w K mg base 3 "is_window" ["window"] (spD K Z.C R_is_window) :=
  have hR : ∀ ds d, R_is_window ds d → ds.length = 1 := fun ds d ⟨_, _, _, _, _, e, _⟩ => by rw [e]; rfl
  ok_is_window Y (has_is_pixel Y) (has_is_between Y) (spD_len hR) (runP hR rfl fun ds d ⟨left, low, w, h, k, e, e2⟩ => by
    subst e e2
    obtain ⟨a1, a2, a3, a4, a5, a6, a7, a8⟩ := k
    refine sd_seq (sd_ifF (td_or2 (td_n (td_B (ed_isi v0 rfl kit_tt))) (td_or2 (td_neF (ed_lenT v0) ed_int rfl) (td_or2 (td_n (td_B (ed_call (ad_cons (ed_op v0 ed_int (od_ixT ix0)) ad_nil) ⟨_, ⟨by omega, by omega⟩, rfl, rfl⟩))) (td_n (td_B (ed_call (ad_cons (ed_op v0 ed_int (od_ixT ix1)) ad_nil) ⟨_, ⟨by omega, by omega⟩, rfl, rfl⟩)))))) (sd_next ?_))
    refine sd_seq (sd_ifF (td_or2 (td_n (td_B (ed_call (ad_cons (ed_op v0 ed_int (od_ixT ix2)) (ad_cons ed_int (ad_cons ed_int ad_nil))) ⟨_, _, _, ⟨by omega, by omega⟩, rfl, rfl⟩))) (td_n (td_B (ed_call (ad_cons (ed_op v0 ed_int (od_ixT ix3)) (ad_cons ed_int (ad_cons ed_int ad_nil))) ⟨_, _, _, ⟨by omega, by omega⟩, rfl, rfl⟩)))) (sd_next ?_))
    exact sd_ret (ed_and2 (ed_call (ad_cons (ed_op (ed_op (ed_op v0 ed_int (od_ixT ix0)) (ed_op v0 ed_int (od_ixT ix2)) od_add) ed_int od_sub) ad_nil) ⟨_, ⟨by omega, by omega⟩, rfl, rfl⟩) (ed_call (ad_cons (ed_op (ed_op (ed_op v0 ed_int (od_ixT ix1)) (ed_op v0 ed_int (od_ixT ix3)) od_add) ed_int od_sub) ad_nil) ⟨_, ⟨by omega, by omega⟩, rfl, rfl⟩)) rfl)
def R_painted (ds : List D) (d : D) : Prop := ∃ (ts : List Th) (rs : List Ru) (sc left low : Int) (w h : Nat), MapOk ts ∧ StyOk rs ∧ ScOk sc ∧ WinOk left low w h ∧ ds = [dMap ts, dSty rs, .int sc, dWin left low w h] ∧ d = dPic (picF ts rs sc left low w h)
theorem hi_pix (ts : List Th) (rs : List Ru) (sc px py : Int) : ∃ x, hiD rs (hiF ts rs sc (marksF ts rs sc).reverse (ctrF sc px py)) = .tup [.int (pixF ts rs sc px py), x] := by
  unfold pixF hiF
  cases h : (marksF ts rs sc).reverse.find? fun m => covF (lkAt rs m.2.1) (shOf ts m.2.2) sc (ctrF sc px py) with
  | none => exact ⟨_, rfl⟩
  | some m => exact ⟨_, rfl⟩
theorem ctr_bd {sc px py : Int} (hs : ScOk sc) (hx : -2048 ≤ px ∧ px ≤ 2047) (hy : -2048 ≤ py ∧ py ≤ 2047) : BdP 300000 (ctrF sc px py) := by
  obtain ⟨_, u2, u3⟩ := unit_at hs
  have m1 := mul_bd (a := unitF sc) (b := 2 * px + 1) (A := 64) (B := 4096) (by omega) (by omega)
  have m2 := mul_bd (a := unitF sc) (b := 2 * py + 1) (A := 64) (B := 4096) (by omega) (by omega)
  unfold ctrF BdP
  simp only
  omega
theorem ed_tupOf {te : TE} {ds : List D} {om1 : Om} (h : ED K C te de om (.lst ds) om1) : ED K C (tCB (rTupOf K) (tCons te tNil)) de om (.tup ds) om1 := ed_cb (ad_cons h ad_nil) cd_tupL
def rowD (ts : List Th) (rs : List Ru) (sc left py : Int) (w : Nat) : D := .tup ((List.range w).map fun j => .int (pixF ts rs sc (left + (j : Nat)) py))
theorem sd_painted (Y : FX K mg Z) {ts : List Th} {rs : List Ru} {sc left low : Int} {w h : Nat} (ht : MapOk ts) (hr : StyOk rs) (hs : ScOk sc) (hw : WinOk left low w h) :
    SD K Z.C (t_painted K Z (spD K Z.C R_painters_of) (spD K Z.C R_centre_of) (spD K Z.C R_highest)) [.d (dMap ts), .d (dSty rs), .d (.int sc), .d (dWin left low w h), .no, .no, .no, .no, .no, .no, .no, .no] [] (fin (dPic (picF ts rs sc left low w h))) := by
  obtain ⟨a1, a2, a3, a4, a5, a6, a7, a8⟩ := hw
  refine sd_seq (sd_asg (ed_call (ad_cons v0 (ad_cons v1 (ad_cons v2 ad_nil))) ⟨ts, rs, sc, ht, hr, hs, rfl, rfl⟩) w4 ?_)
  refine sd_seq (sd_asgG v3 (gd_tup (gds_cons (gd_name w5) (gds_cons (gd_name w6) (gds_cons (gd_name w7) (gds_cons (gd_name w8) gds_nil)))) rfl) ?_)
  refine sd_seq (sd_new (en_lst ad_nil (nle rfl)) fun a => ⟨_, w9, ?_⟩)
  have en : (low + (h : Nat) - 1 - (low - 1)).toNat = h := by omega
  have ew : (left + (w : Nat) - left).toNat = w := by omega
  refine sd_seq (sd_for (il_r3 (ad_cons (ed_op (ed_op v6 v8 od_add) ed_int od_sub) (ad_cons (ed_op v6 ed_int od_sub) (ad_cons (ed_neg ed_int) ad_nil))) (by omega)) (fun _ => [.d (dMap ts), .d (dSty rs), .d (.int sc), .d (dWin left low w h), .d (.lst ((marksF ts rs sc).reverse.map (dPt ts rs sc))), .d (.int left), .d (.int low), .d (.int (w : Nat)), .d (.int (h : Nat)), .o a, .no, .no])
    (fun i => [(a, .l ((List.range i).map fun i => rowD ts rs sc left (low + (h : Nat) - 1 - (i : Nat)) w))]) (by repeat constructor) (List.Sublist.refl _) (fun i d hd => ?_) ?_)
  · obtain ⟨hi, rfl⟩ := dwnD_at hd
    rw [en] at hi
    refine ⟨_, _, gd_name w10, ?_⟩
    refine sd_app (.s (.s (.s (.s (.s (.s (.s (.s (.s .z))))))))) (d := rowD ts rs sc left (low + (h : Nat) - 1 - (i : Nat)) w) (om1 := [(a, .l ((List.range i).map fun i => rowD ts rs sc left (low + (h : Nat) - 1 - (i : Nat)) w))]) ?_ .z .z ?_ .z ⟨by repeat constructor, ?_⟩
    · have q := en_map (K := K) (C := Z.C) (vs := [11]) (g := gName 11) (te := tOp (rIxT K) (tCall (spD K Z.C R_highest) [] E0 (tCons (tVar 4) (tCons (tCall (spD K Z.C R_centre_of) [] E0 (tCons (tVar 2) (tCons (tVar 11) (tCons (tVar 10) tNil)))) tNil))) (tC (.int 0)))
        (il_r2 (K := K) (C := Z.C) (de := [.d (dMap ts), .d (dSty rs), .d (.int sc), .d (dWin left low w h), .d (.lst ((marksF ts rs sc).reverse.map (dPt ts rs sc))), .d (.int left), .d (.int low), .d (.int (w : Nat)), .d (.int (h : Nat)), .o a, .d (.int (low + (h : Nat) - 1 - (i : Nat))), .no]) (om := [(a, .l ((List.range i).map fun i => rowD ts rs sc left (low + (h : Nat) - 1 - (i : Nat)) w))])
          (tr := tCons (tVar 5) (tCons (tOp rAd (tVar 5) (tVar 7)) tNil)) (lo := left) (hi := left + (w : Nat)) (ad_cons v5 (ad_cons (ed_op v5 v7 od_add) ad_nil)) (by omega))
        (fun j => .int (pixF ts rs sc (left + (j : Nat)) (low + (h : Nat) - 1 - (i : Nat)))) (by rw [rngD_len]; omega) fun j d hd => by
          obtain ⟨hj, rfl⟩ := rngD_at hd
          rw [ew] at hj
          have hc := ed_call (K := K) (C := Z.C) (R := R_highest) (E := E0) (de := [.d (dMap ts), .d (dSty rs), .d (.int sc), .d (dWin left low w h), .d (.lst ((marksF ts rs sc).reverse.map (dPt ts rs sc))), .d (.int left), .d (.int low), .d (.int (w : Nat)), .d (.int (h : Nat)), .o a, .d (.int (low + (h : Nat) - 1 - (i : Nat))), .d (.int (left + (j : Nat)))])
            (om := [(a, .l ((List.range i).map fun i => rowD ts rs sc left (low + (h : Nat) - 1 - (i : Nat)) w))]) (tr := tCons (tVar 4) (tCons (tCall (spD K Z.C R_centre_of) [] E0 (tCons (tVar 2) (tCons (tVar 11) (tCons (tVar 10) tNil)))) tNil))
            (ad_cons v4 (ad_cons (ed_call (ad_cons v2 (ad_cons v11 (ad_cons v10 ad_nil))) ⟨sc, _, _, hs, rfl, rfl⟩) ad_nil))
            ⟨ts, rs, sc, (marksF ts rs sc).reverse, _, ht, hr, hs, fun m hm => marks_ok m (List.mem_reverse.mp hm), ctr_bd hs (by omega) (by omega), rfl, rfl⟩
          obtain ⟨x, ex⟩ := hi_pix ts rs sc (left + (j : Nat)) (low + (h : Nat) - 1 - (i : Nat))
          rw [ex] at hc
          exact ⟨_, _, gd_name w11, mem1 (by simp), ed_op hc ed_int (od_ixT ix0)⟩
      rw [rngD_len, ew] at q
      exact ed_tupOf (ed_frz q)
    · rw [List.length_map, List.length_range]
      omega
    · rw [List.range_succ, List.map_append]
      exact List.Sublist.refl _
  · rw [dwnD_len, en]
    refine sd_frz (.s (.s (.s (.s (.s (.s (.s (.s (.s .z))))))))) .z w9 (sd_ret (ed_tupOf v9) ?_)
    unfold dPic picF rowD
    rw [List.map_map]
    congr 1
    apply List.map_congr_left
    intro i _
    show _ = D.tup (((List.range w).map _).map D.int)
    rw [List.map_map]
    rfl
theorem has_painted (Y : FX K mg Z) (hw : Z.w = w) : Has P w K mg base 7 "painted" ["map_things", "style", "scale", "window"] (spD K Z.C R_painted) :=
  have hR : ∀ ds d, R_painted ds d → ds.length = 4 := fun ds d ⟨_, _, _, _, _, _, _, _, _, _, _, e, _⟩ => by rw [e]; rfl
  ok_painted Y (has_painters_of Y hw) (has_centre_of Y) (has_highest Y) (spD_len hR) (runP hR rfl fun ds d ⟨ts, rs, sc, left, low, w, h, h1, h2, h3, h4, e, e2⟩ => by
    subst e e2
    exact sd_painted Y h1 h2 h3 h4)
def R_picture (ds : List D) (d : D) : Prop := R_painted ds d
theorem has_picture (Y : FX K mg Z) (hw : Z.w = w) : Has P w K mg base 9 "picture" ["map_things", "style", "scale", "window"] (spD K Z.C R_picture) :=
  have hR : ∀ ds d, R_picture ds d → ds.length = 4 := fun ds d ⟨_, _, _, _, _, _, _, _, _, _, _, e, _⟩ => by rw [e]; rfl
  ok_picture Y (has_check_map Y) (has_check_style Y) (has_check_scale Y) (has_is_window Y) (has_painted Y hw) (spD_len hR) (runP hR rfl fun ds d ⟨ts, rs, sc, left, low, w, h, h1, h2, h3, h4, e, e2⟩ => by
    subst e e2
    refine sd_seq (sd_drop (ed_call (ad_cons v0 ad_nil) ⟨ts, h1, rfl, rfl⟩) ?_)
    refine sd_seq (sd_drop (ed_call (ad_cons v1 ad_nil) ⟨rs, h2, rfl, rfl⟩) ?_)
    refine sd_seq (sd_drop (ed_call (ad_cons v2 ad_nil) ⟨sc, h3, rfl, rfl⟩) ?_)
    refine sd_seq (sd_ifF (td_n (td_B (ed_call (ad_cons v3 ad_nil) ⟨left, low, w, h, h4, rfl, rfl⟩))) (sd_next ?_))
    exact sd_ret (ed_call (ad_cons v0 (ad_cons v1 (ad_cons v2 (ad_cons v3 ad_nil)))) ⟨ts, rs, sc, left, low, w, h, h1, h2, h3, h4, rfl, rfl⟩) rfl)
end
end TA

/-! The defs, 9: tiles, sheets. -/
namespace TA
open PySem L2
structure SheetOk (a : List (List Int)) : Prop where
  n : a.length = 16
  rows : ∀ r ∈ a, r.length = 16 ∧ ∀ x ∈ r, 0 ≤ x ∧ x ≤ 63
def dSheets (ss : List (List (List (List Int)))) : D := .lst (ss.map fun l => .lst (l.map dPic))
structure SheetsOk (ss : List (List (List (List Int)))) : Prop where
  n1 : 1 ≤ ss.length
  n4 : ss.length ≤ 4
  line : ∀ l ∈ ss, (1 ≤ l.length ∧ l.length ≤ 4) ∧ l.length = (ss.getD 0 []).length ∧ ∀ a ∈ l, SheetOk a
def rowAt (a : List (List Int)) (i : Nat) : List Int := a.getD i []
def joinRow (l : List (List (List Int))) (i : Nat) : List Int := l.flatMap fun a => rowAt a i
def joinF (ss : List (List (List (List Int)))) : List (List Int) := ss.flatMap fun l => (List.range 16).map (joinRow l)
def dRow (r : List Int) : D := .tup (r.map D.int)
theorem dPic_eq (a : List (List Int)) : dPic a = .tup (a.map dRow) := rfl
section
variable {P : Program} {w : World} {K : PySem.W.Frag} {mg : Str → Option Value} {base : Heap} {Z : Cst} {C : Addr} {de : List Sl} {om : Om}
structure TileOk (sc c r : Int) : Prop where
  sc : ScOk sc
  c : -128 ≤ c ∧ c ≤ 127
  r : -128 ≤ r ∧ r ≤ 127
def dTile (sc c r : Int) : D := .tup [.int sc, .int c, .int r]
def R_is_tile (ds : List D) (d : D) : Prop := ∃ sc c r : Int, TileOk sc c r ∧ ds = [dTile sc c r] ∧ d = .bl true
theorem has_is_tile (Y : FX K mg Z) : Has P w K mg base 3 "is_tile" ["value"] (spD K Z.C R_is_tile) :=
  have hR : ∀ ds d, R_is_tile ds d → ds.length = 1 := fun ds d ⟨_, _, _, _, e, _⟩ => by rw [e]; rfl
  ok_is_tile Y (has_is_scale Y) (has_is_between Y) (spD_len hR) (runP hR rfl fun ds d ⟨sc, c, r, h, e, e2⟩ => by
    subst e e2
    refine sd_seq (sd_ifF (td_or2 (td_n (td_B (ed_isi v0 rfl kit_tt))) (td_or2 (td_neF (ed_lenT v0) ed_int rfl) (td_n (td_B (ed_call (ad_cons (ed_op v0 ed_int (od_ixT ix0)) ad_nil) ⟨_, h.sc, rfl, rfl⟩))))) (sd_next ?_))
    refine sd_ret (ed_allT (il_tup (ed_slF (k := 1) v0 (pd_some ed_int) pd_none)) (nle rfl) fun i d hd => ?_) rfl
    match i, hd with
    | 0, hd =>
      cases (Option.some.inj hd)
      exact ⟨_, _, gd_name w1, mem1 (by simp), ed_call (ad_cons v1 (ad_cons ed_int (ad_cons ed_int ad_nil))) ⟨_, _, _, h.c, rfl, rfl⟩⟩
    | 1, hd =>
      cases (Option.some.inj hd)
      exact ⟨_, _, gd_name w1, mem1 (by simp), ed_call (ad_cons v1 (ad_cons ed_int (ad_cons ed_int ad_nil))) ⟨_, _, _, h.r, rfl, rfl⟩⟩
    | _ + 2, hd => simp at hd)
def R_is_sheet (ds : List D) (d : D) : Prop := ∃ a, SheetOk a ∧ ds = [dPic a] ∧ d = .bl true
theorem has_is_sheet (Y : FX K mg Z) : Has P w K mg base 2 "is_sheet" ["value"] (spD K Z.C R_is_sheet) :=
  have hR : ∀ ds d, R_is_sheet ds d → ds.length = 1 := fun ds d ⟨_, _, e, _⟩ => by rw [e]; rfl
  ok_is_sheet Y (has_is_between Y) (spD_len hR) (runP hR rfl fun ds d ⟨a, h, e, e2⟩ => by
    subst e e2
    have h16 := h.n
    refine sd_seq (sd_ifF (td_or2 (td_n (td_B (ed_isi v0 rfl kit_tt))) (td_neF (ed_lenT v0) ed_int (by rw [List.length_map, h16]; rfl))) (sd_next ?_))
    refine sd_seq (sd_for (il_tup v0) (fun _ => [.d (dPic a), .no, .no]) (fun _ => []) (by repeat constructor) (List.Sublist.refl _) (fun i d hd => ?_) (sd_ret ed_bl rfl))
    obtain ⟨r, _, rfl, hr⟩ := map_get hd
    obtain ⟨h1, h2⟩ := h.rows r hr
    refine ⟨_, _, gd_name w1, ?_⟩
    refine sd_seq (sd_ifF (td_or2 (td_n (td_B (ed_isi v1 rfl kit_tt))) (td_neF (ed_lenT v1) ed_int (by rw [List.length_map, h1]; rfl))) (sd_next ?_))
    refine sd_ifF (td_n (td_B (ed_allT (il_tup v1) (by rw [List.length_map, h1]; exact nle rfl) fun i d hd => ?_))) (sd_next ⟨by repeat constructor, List.Sublist.refl _⟩)
    obtain ⟨x, _, rfl, hx⟩ := map_get hd
    exact ⟨_, _, gd_name w2, mem1 (by simp), ed_call (ad_cons v2 (ad_cons ed_int (ad_cons ed_int ad_nil))) ⟨_, _, _, h2 x hx, rfl, rfl⟩⟩)
def R_check_sheet (ds : List D) (d : D) : Prop := ∃ a n, SheetOk a ∧ ds = [dPic a, n] ∧ d = .non
theorem has_check_sheet (Y : FX K mg Z) : Has P w K mg base 3 "check_sheet" ["sheet", "name"] (spD K Z.C R_check_sheet) :=
  have hR : ∀ ds d, R_check_sheet ds d → ds.length = 2 := fun ds d ⟨_, _, _, e, _⟩ => by rw [e]; rfl
  ok_check_sheet Y (has_is_sheet Y) (spD_len hR) (runP hR rfl fun ds d ⟨a, n, h, e, e2⟩ => by
    subst e e2
    exact sd_ifF (td_n (td_B (ed_call (ad_cons v0 ad_nil) ⟨a, h, rfl, rfl⟩))) (sd_next rfl))
def R_drawn_tile (ds : List D) (d : D) : Prop := ∃ (ts : List Th) (rs : List Ru) (sc c r : Int), MapOk ts ∧ StyOk rs ∧ TileOk sc c r ∧ ds = [dMap ts, dSty rs, dTile sc c r] ∧ d = dPic (picF ts rs sc (16 * c) (16 * r) 16 16)
theorem has_drawn_tile (Y : FX K mg Z) (hw : Z.w = w) : Has P w K mg base 8 "drawn_tile" ["map_things", "style", "tile"] (spD K Z.C R_drawn_tile) :=
  have hR : ∀ ds d, R_drawn_tile ds d → ds.length = 3 := fun ds d ⟨_, _, _, _, _, _, _, _, e, _⟩ => by rw [e]; rfl
  ok_drawn_tile Y (has_painted Y hw) (spD_len hR) (runP hR rfl fun ds d ⟨ts, rs, sc, c, r, h1, h2, h3, e, e2⟩ => by
    subst e e2
    obtain ⟨s1, c1, r1⟩ := h3
    refine sd_seq (sd_asgG v2 (gd_tup (gds_cons (gd_name w3) (gds_cons (gd_name w4) (gds_cons (gd_name w5) gds_nil))) rfl) ?_)
    exact sd_ret (ed_call (ad_cons v0 (ad_cons v1 (ad_cons v3 (ad_cons (ed_tup (ad_cons (ed_op ed_int v4 (od_mul (CMul.l (by omega)))) (ad_cons (ed_op ed_int v5 (od_mul (CMul.l (by omega)))) (ad_cons ed_int (ad_cons ed_int ad_nil)))) (nle rfl)) ad_nil))))
      ⟨ts, rs, sc, 16 * c, 16 * r, 16, 16, h1, h2, s1, ⟨by omega, by omega, by omega, by omega, by decide, by decide, by decide, by decide⟩, rfl, rfl⟩) rfl)
theorem has_tile_picture (Y : FX K mg Z) (hw : Z.w = w) : Has P w K mg base 9 "tile_picture" ["map_things", "style", "tile"] (spD K Z.C R_drawn_tile) :=
  have hR : ∀ ds d, R_drawn_tile ds d → ds.length = 3 := fun ds d ⟨_, _, _, _, _, _, _, _, e, _⟩ => by rw [e]; rfl
  ok_tile_picture Y (has_check_map Y) (has_check_style Y) (has_is_tile Y) (has_drawn_tile Y hw) (spD_len hR) (runP hR rfl fun ds d ⟨ts, rs, sc, c, r, h1, h2, h3, e, e2⟩ => by
    subst e e2
    refine sd_seq (sd_drop (ed_call (ad_cons v0 ad_nil) ⟨ts, h1, rfl, rfl⟩) ?_)
    refine sd_seq (sd_drop (ed_call (ad_cons v1 ad_nil) ⟨rs, h2, rfl, rfl⟩) ?_)
    refine sd_seq (sd_ifF (td_n (td_B (ed_call (ad_cons v2 ad_nil) ⟨sc, c, r, h3, rfl, rfl⟩))) (sd_next ?_))
    exact sd_ret (ed_call (ad_cons v0 (ad_cons v1 (ad_cons v2 ad_nil))) ⟨ts, rs, sc, c, r, h1, h2, h3, rfl, rfl⟩) rfl)
def R_check_sheets (ds : List D) (d : D) : Prop := ∃ ss, SheetsOk ss ∧ ds = [dSheets ss] ∧ d = .non
theorem has_check_sheets (Y : FX K mg Z) : Has P w K mg base 4 "check_sheets" ["sheets"] (spD K Z.C R_check_sheets) :=
  have hR : ∀ ds d, R_check_sheets ds d → ds.length = 1 := fun ds d ⟨_, _, e, _⟩ => by rw [e]; rfl
  ok_check_sheets Y (has_check_sheet Y) (spD_len hR) (runP hR rfl fun ds d ⟨ss, h, e, e2⟩ => by
    subst e e2
    have h1 := h.n1
    have h4 := h.n4
    refine sd_seq (sd_ifF (td_or2 (td_n (td_B (ed_isi v0 rfl kit_ll))) (td_n (td_btw ed_int (ed_lenL v0) ed_int (by rw [List.length_map]; omega)))) (sd_next ?_))
    refine sd_for (il_lst v0) (fun _ => [.d (dSheets ss), .no, .no]) (fun _ => []) (by repeat constructor) (List.Sublist.refl _) (fun i d hd => ?_) rfl
    obtain ⟨l, _, rfl, hl⟩ := map_get hd
    obtain ⟨⟨k1, k2⟩, k3, k4⟩ := h.line l hl
    have g0 : ss[0]? = some (ss.getD 0 []) := by
      rw [List.getD_eq_getElem?_getD, List.getElem?_eq_getElem (by omega)]
      rfl
    have g1 : (ss.map fun l => D.lst (l.map dPic))[0]? = some (.lst ((ss.getD 0 []).map dPic)) := by
      rw [List.getElem?_map, g0]
      rfl
    refine ⟨_, _, gd_name w1, ?_⟩
    refine sd_seq (sd_ifF (td_or2 (td_n (td_B (ed_isi v1 rfl kit_ll))) (td_or2 (td_n (td_btw ed_int (ed_lenL v1) ed_int (by rw [List.length_map]; omega))) (td_neF (ed_lenL v1) (ed_lenL (ed_op v0 ed_int (od_ixL (atI_of (j := 0) rfl g1)))) (by rw [List.length_map, List.length_map, k3])))) (sd_next ?_))
    refine sd_for (il_lst v1) (fun _ => [.d (dSheets ss), .d (.lst (l.map dPic)), .no]) (fun _ => []) (by repeat constructor) (List.Sublist.refl _) (fun j d hd => ?_) ⟨by repeat constructor, List.Sublist.refl _⟩
    obtain ⟨a, _, rfl, ha⟩ := map_get hd
    exact ⟨_, _, gd_name w2, sd_drop (ed_call (ad_cons v2 (ad_cons ed_str ad_nil)) ⟨a, _, k4 a ha, rfl, rfl⟩) ⟨by repeat constructor, List.Sublist.refl _⟩⟩)
/-! joined -/
def R_joined (ds : List D) (d : D) : Prop := ∃ ss, SheetsOk ss ∧ ds = [dSheets ss] ∧ d = dPic (joinF ss)
theorem rowAt_get {a : List (List Int)} {i : Nat} (h : i < a.length) : (a.map dRow)[i]? = some (dRow (rowAt a i)) := by
  unfold rowAt
  rw [List.getElem?_map, List.getD_eq_getElem?_getD, List.getElem?_eq_getElem h]
  rfl
theorem joinF_len (ss : List (List (List (List Int)))) : (joinF ss).length = 16 * ss.length := by
  unfold joinF
  induction ss with
  | nil => rfl
  | cons l ss ih =>
    rw [List.flatMap_cons, List.length_append, ih, List.length_map, List.length_range, List.length_cons]
    omega
theorem row_len {l : List (List (List Int))} {i : Nat} (hi : i < 16) (h : ∀ a ∈ l, SheetOk a) : (joinRow l i).length ≤ 16 * l.length := by
  unfold joinRow
  induction l with
  | nil => exact Nat.zero_le _
  | cons a l ih =>
    have ha := h a List.mem_cons_self
    have h1 := ih fun b hb => h b (List.mem_cons_of_mem _ hb)
    have hr : rowAt a i ∈ a := by
      unfold rowAt
      rw [List.getD_eq_getElem?_getD, List.getElem?_eq_getElem (by rw [ha.n]; exact hi)]
      exact List.getElem_mem _
    rw [List.flatMap_cons, List.length_append, List.length_cons, (ha.rows _ hr).1]
    omega
theorem has_joined (Y : FX K mg Z) : Has P w K mg base 5 "joined" ["sheets"] (spD K Z.C R_joined) :=
  have hR : ∀ ds d, R_joined ds d → ds.length = 1 := fun ds d ⟨_, _, e, _⟩ => by rw [e]; rfl
  ok_joined Y (has_check_sheets Y) (spD_len hR) (runP hR rfl fun ds d ⟨ss, h, e, e2⟩ => by
    subst e e2
    have h4 := h.n4
    refine sd_seq (sd_drop (ed_call (ad_cons v0 ad_nil) ⟨ss, h, rfl, rfl⟩) ?_)
    refine sd_seq (sd_new (en_lst ad_nil (nle rfl)) fun a => ⟨_, w1, ?_⟩)
    refine sd_seq (sd_for (il_lst v0) (fun _ => [.d (dSheets ss), .o a, .no, .no, .no, .no]) (fun i => [(a, .l ((joinF (ss.take i)).map dRow))]) (by repeat constructor) (List.Sublist.refl _) (fun i d hd => ?_) ?_)
    · obtain ⟨l, hg, rfl, hl⟩ := map_get hd
      obtain ⟨⟨k1, k2⟩, k3, k4⟩ := h.line l hl
      have hi := (List.getElem?_eq_some_iff.mp hg).1
      refine ⟨_, _, gd_name w2, ?_⟩
      refine sd_for (il_r1 (ad_cons ed_int ad_nil) (by decide) (by decide)) (fun _ => [.d (dSheets ss), .o a, .d (.lst (l.map dPic)), .no, .no, .no]) (fun j => [(a, .l ((joinF (ss.take i)).map dRow ++ ((List.range j).map (joinRow l)).map dRow))]) (by repeat constructor) (by rw [List.range_zero, List.map_nil, List.map_nil, List.append_nil]; exact List.Sublist.refl _) (fun j d hd => ?_) ?_
      · obtain ⟨hj, rfl⟩ := rngD_at hd
        have hj2 : j < 16 := hj
        refine ⟨_, _, gd_name w3, ?_⟩
        refine sd_seq (sd_asg (ed_tup ad_nil (nle rfl)) w4 ?_)
        refine sd_seq (sd_for (il_lst v2) (fun m => [.d (dSheets ss), .o a, .d (.lst (l.map dPic)), .d (.int (0 + (j : Nat))), .d (dRow (joinRow (l.take m) j)), .no]) (fun _ => [(a, .l ((joinF (ss.take i)).map dRow ++ ((List.range j).map (joinRow l)).map dRow))]) (by repeat constructor) (List.Sublist.refl _) (fun m d hd => ?_) ?_)
        · obtain ⟨b, hb, rfl, hbm⟩ := map_get hd
          have sb := k4 b hbm
          have hm := (List.getElem?_eq_some_iff.mp hb).1
          have hlen := row_len (l := l.take m) hj2 fun c hc => k4 c (List.mem_of_mem_take hc)
          have hrb : rowAt b j ∈ b := by
            unfold rowAt
            rw [List.getD_eq_getElem?_getD, List.getElem?_eq_getElem (by rw [sb.n]; exact hj2)]
            exact List.getElem_mem _
          have hlen2 := (sb.rows _ hrb).1
          refine ⟨_, _, gd_name w5, sd_asg (ed_is (ed_op v4 (ed_op v5 v3 (od_ixT (atI_of (j := j) (by omega) (rowAt_get (by rw [sb.n]; exact hj2))))) (od_catA ?_)) ?_) w4 ⟨by repeat constructor, List.Sublist.refl _⟩⟩
          · rw [List.length_map, List.length_map, hlen2]
            rw [List.length_take] at hlen
            omega
          · show D.tup _ = dRow _
            unfold dRow joinRow
            rw [take_succ_flat hb, List.map_append]
        · rw [List.length_map, List.take_length]
          refine sd_app (.s .z) v4 .z .z ?_ .z ⟨by repeat constructor, ?_⟩
          · rw [List.length_append, List.length_map, List.length_map, List.length_map, List.length_range, joinF_len, List.length_take]
            omega
          · rw [List.range_succ, List.map_append, List.map_append, ← List.append_assoc]
            exact List.Sublist.refl _
      · rw [rngD_len]
        refine ⟨by repeat constructor, ?_⟩
        have e : joinF (ss.take (i + 1)) = joinF (ss.take i) ++ (List.range 16).map (joinRow l) := by
          unfold joinF
          rw [take_succ_flat hg]
        rw [e, List.map_append]
        exact List.Sublist.refl _
    · rw [List.length_map, List.take_length]
      exact sd_frz (.s .z) .z w1 (sd_ret (ed_tupOf v1) rfl))
end
end TA

/-! The law's defs, 1: the stream, rings, shapes, map, style. -/
namespace TA
open PySem L2
structure StS where
  ns : List Int
  c : Int
  k : Nat
def encS (s : StS) : List D := [.lst (s.ns.map D.int), .int s.c, .int (s.k : Nat)]
def absI (i : Int) : Int := if i < 0 then -i else i
def cell0 (ns : List Int) (k : Nat) : Int := match ns[k]? with
  | some x => absI x
  | none => 7 + (k : Nat)
def mixA (c : Int) (k : Nat) : Int := (c * 48271 + (k : Nat) * 69621 + 11) % 2147483647
def cellF (ns : List Int) (k : Nat) : Int :=
  if cell0 ns k < 10 ^ (18 : Int).toNat then ((mixA (cell0 ns k) k) * 16807 + 13) % 2147483647 * 65537 + mixA (cell0 ns k) k else cell0 ns k
def freshS (s : StS) : StS := if s.c = 0 then ⟨s.ns, cellF s.ns s.k, s.k + 1⟩ else s
def nextF (s : StS) (m : Int) : Int × StS := ((freshS s).c % m, ⟨(freshS s).ns, (freshS s).c / m, (freshS s).k⟩)
theorem next_rng (s : StS) {m : Int} (h : 0 < m) : 0 ≤ (nextF s m).1 ∧ (nextF s m).1 < m := ⟨Int.emod_nonneg _ (by omega), Int.emod_lt_of_pos _ h⟩
section
variable {P : Program} {w : World} {K : PySem.W.Frag} {mg : Str → Option Value} {base : Heap} {Z : Cst} {C : Addr} {de : List Sl} {om om' : Om}
abbrev finS (st : Addr) (d : D) (s : List D) : Post := ⟨fun _ _ => False, fun d' om => d' = d ∧ OmAt om st (.l s), fun _ _ => False, fun _ _ => False⟩
theorem spS_len {R : List D → List D → D → List D → Prop} {n : Nat} (h : ∀ s ds d s', R s ds d s' → ds.length = n) : ∀ vs H Q E, spS K C R vs H Q E → vs.length = n + 1 := fun vs H Q E ⟨G, st, ws, ds, s, d, s', e, _, _, _, r, hR, _⟩ => by
  rw [e, List.length_cons, r.len, h s ds d s' hR]
theorem runS {t : TS} {N : List Str} {R : List D → List D → D → List D → Prop} {n : Nat} (hR : ∀ s ds d s', R s ds d s' → ds.length = n) (hN : (n + 1).ble N.length = true)
    (body : ∀ st s ds d s', R s ds d s' → SD K C t (.o st :: ds.map Sl.d ++ List.replicate (N.length - (ds.length + 1)) .no) [(st, .l s)] ⟨fun _ _ => False, fun d' om => d' = d ∧ OmAt om st (.l s'), fun _ _ => False, fun _ _ => False⟩) (vs : List V) (H : Hp) (Q : VK) (E : XK) (h : spS K C R vs H Q E) :
    t { nx := fun _ H' => Q .non H', rt := Q } (L2.start N vs) H := fn_strm (fun s ds d s' h => by rw [hR s ds d s' h]; exact Nat.le_of_ble_eq_true hN) body vs H Q E h
def R_next (s : List D) (ds : List D) (d : D) (s' : List D) : Prop := ∃ (x : StS) (m : Int), (0 < m ∧ m ≤ 1000) ∧ s = encS x ∧ ds = [.int m] ∧ d = .int (nextF x m).1 ∧ s' = encS (nextF x m).2
theorem sd_next_ {st : Addr} {x : StS} {m : Int} (hm : 0 < m ∧ m ≤ 1000) : SD K C (t__law_next K Z) [.o st, .d (.int m), .no, .no, .no] [(st, .l (encS x))] (finS st (.int (nextF x m).1) (encS (nextF x m).2)) := by
  have rest : ∀ y : StS, SD K C (tSeq (tAsg (tOp rMo (tCB rInt1 (tCons (tOp (rIxL K) (tVar 0) (tC (.int 1))) tNil)) (tVar 1)) (gName 4)) (tSeq (tAsg (tOp rFd (tOp (rIxL K) (tVar 0) (tC (.int 1))) (tVar 1)) (gSub (tVar 0) (tC (.int 1)) rSetL)) (tRet (tVar 4))))
      [.o st, .d (.int m), .no, .no, .no] [(st, .l (encS y))] (finS st (.int (y.c % m)) (encS ⟨y.ns, y.c / m, y.k⟩)) := fun y => by
    refine sd_seq (sd_asg (ed_op (ed_cb (ad_cons (ed_ixO .z ed_int .z ix1) ad_nil) cd_int1) v1 (od_mod hm.1)) w4 ?_)
    refine sd_seq (sd_put .z (ed_op (ed_ixO .z ed_int .z ix1) v1 (od_fdiv ⟨hm.1, by omega⟩)) ed_int .z (j := 1) (ixN_nat (by show 1 < 3; decide)) .z ?_)
    exact sd_ret v4 ⟨rfl, .z⟩
  unfold nextF freshS
  by_cases h0 : x.c = 0
  · rw [if_pos h0]
    refine sd_seq (sd_ifT (td_is (td_test (ed_op (ed_ixO .z ed_int .z ix1) ed_int od_eqI)) (decide_eq_true h0)) ?_)
    refine sd_seq (sd_asg (ed_ixO .z ed_int .z ix2) w2 ?_)
    refine sd_seq (sd_asg (ed_op ed_int v2 od_add) w3 ?_)
    have fin_ : ∀ c : Int, SD K C (tSeq (tAsg (tVar 3) (gSub (tVar 0) (tC (.int 1)) rSetL)) (tAsg (tOp rAd (tVar 2) (tC (.int 1))) (gSub (tVar 0) (tC (.int 2)) rSetL))) [.o st, .d (.int m), .d (.int (x.k : Nat)), .d (.int c), .no] [(st, .l (encS x))]
        { finS st (.int (c % m)) (encS ⟨x.ns, c / m, x.k + 1⟩) with nx := fun de' om' => SD K C (tSeq (tAsg (tOp rMo (tCB rInt1 (tCons (tOp (rIxL K) (tVar 0) (tC (.int 1))) tNil)) (tVar 1)) (gName 4)) (tSeq (tAsg (tOp rFd (tOp (rIxL K) (tVar 0) (tC (.int 1))) (tVar 1)) (gSub (tVar 0) (tC (.int 1)) rSetL)) (tRet (tVar 4)))) de' om' (finS st (.int (c % m)) (encS ⟨x.ns, c / m, x.k + 1⟩)) } := fun c => by
      refine sd_seq (sd_put .z v3 ed_int .z (j := 1) (ixN_nat (by show 1 < 3; decide)) .z ?_)
      refine sd_put .z (ed_op v2 ed_int od_add) ed_int .z (j := 2) (ixN_nat (by show 2 < 3; decide)) .z ?_
      have q := rest ⟨x.ns, c, x.k + 1⟩
      refine sd_wk (by repeat constructor) ?_ q
      show List.Sublist [(st, Ow.l [_, _, _])] [(st, Ow.l [_, _, _])]
      have e : ((x.k + 1 : Nat) : Int) = (x.k : Int) + 1 := by omega
      rw [e]
      exact List.Sublist.refl _
    have mix : ∀ c : Int, c = cell0 x.ns x.k → SD K C (tSeq (tIfS (tTest (tOp rL (tVar 3) (tOp rPw (tC (.int 10)) (tC (.int 18))))) (tSeq (tAsg (tOp rMo (tCB rInt1 (tCons (tOp rAd (tOp rAd (tOp rMu (tVar 3) (tC (.int 48271))) (tOp rMu (tVar 2) (tC (.int 69621)))) (tC (.int 11))) tNil)) (tC (.int 2147483647))) (gName 3))
        (tAsg (tOp rAd (tOp rMu (tOp rMo (tCB rInt1 (tCons (tOp rAd (tOp rMu (tVar 3) (tC (.int 16807))) (tC (.int 13))) tNil)) (tC (.int 2147483647))) (tC (.int 65537))) (tVar 3)) (gName 3))) tNext) (tSeq (tAsg (tVar 3) (gSub (tVar 0) (tC (.int 1)) rSetL)) (tAsg (tOp rAd (tVar 2) (tC (.int 1))) (gSub (tVar 0) (tC (.int 2)) rSetL))))
        [.o st, .d (.int m), .d (.int (x.k : Nat)), .d (.int c), .no] [(st, .l (encS x))]
        { finS st (.int (cellF x.ns x.k % m)) (encS ⟨x.ns, cellF x.ns x.k / m, x.k + 1⟩) with nx := fun de' om' => SD K C (tSeq (tAsg (tOp rMo (tCB rInt1 (tCons (tOp (rIxL K) (tVar 0) (tC (.int 1))) tNil)) (tVar 1)) (gName 4)) (tSeq (tAsg (tOp rFd (tOp (rIxL K) (tVar 0) (tC (.int 1))) (tVar 1)) (gSub (tVar 0) (tC (.int 1)) rSetL)) (tRet (tVar 4)))) de' om' (finS st (.int (cellF x.ns x.k % m)) (encS ⟨x.ns, cellF x.ns x.k / m, x.k + 1⟩)) } := fun c hc => by
      refine sd_seq (sd_if (td_test (ed_op v3 (ed_op ed_int ed_int (od_pow ⟨by decide, by decide, by decide⟩)) od_lt)) (fun hz => ?_) fun hz => sd_next ?_)
      · refine sd_seq (sd_asg (ed_op (ed_cb (ad_cons (ed_op (ed_op (ed_op v3 ed_int (od_mul (CMul.r (by decide)))) (ed_op v2 ed_int (od_mul (CMul.r (by decide)))) od_add) ed_int od_add) ad_nil) cd_int1) ed_int (od_mod (by decide))) w3 ?_)
        refine sd_asg (ed_op (ed_op (ed_op (ed_cb (ad_cons (ed_op (ed_op v3 ed_int (od_mul (CMul.r (by decide)))) ed_int od_add) ad_nil) cd_int1) ed_int (od_mod (by decide))) ed_int (od_mul (CMul.r (by decide)))) v3 od_add) w3 ?_
        have e : cellF x.ns x.k = ((mixA c x.k) * 16807 + 13) % 2147483647 * 65537 + mixA c x.k := by
          unfold cellF
          rw [← hc, if_pos (of_decide_eq_true hz)]
        rw [e]
        exact fin_ _
      · have e : cellF x.ns x.k = c := by
          unfold cellF
          rw [← hc, if_neg (of_decide_eq_false hz)]
        rw [e]
        exact fin_ _
    cases hk : x.ns[x.k]? with
    | some y =>
      have hlt := (List.getElem?_eq_some_iff.mp hk).1
      have hy : (x.ns.map D.int)[x.k]? = some (.int y) := by rw [List.getElem?_map, hk]; rfl
      refine sd_seq (sd_ifT (td_is (td_test (ed_op v2 (ed_lenL (ed_ixO .z ed_int .z ix0)) od_lt)) (decide_eq_true (by rw [List.length_map]; omega))) (sd_asg (ed_cb (ad_cons (ed_op (ed_ixO .z ed_int .z ix0) v2 (od_ixL (atI_of rfl hy))) ad_nil) cd_abs) w3 ?_))
      refine mix _ ?_
      unfold cell0
      rw [hk]
      rfl
    | none =>
      have hge := List.getElem?_eq_none_iff.mp hk
      refine sd_seq (sd_ifF (td_is (td_test (ed_op v2 (ed_lenL (ed_ixO .z ed_int .z ix0)) od_lt)) (decide_eq_false (by rw [List.length_map]; omega))) (sd_next ?_))
      refine mix _ ?_
      unfold cell0
      rw [hk]
  · rw [if_neg h0]
    refine sd_seq (sd_ifF (td_is (td_test (ed_op (ed_ixO .z ed_int .z ix1) ed_int od_eqI)) (decide_eq_false h0)) (sd_next ?_))
    exact rest x
theorem has__law_next (Y : FX K mg Z) : Has P w K mg base 1 "_law_next" ["_law_stream_here", "_law_many"] (spS K Z.C R_next) :=
  have hR : ∀ s ds d s', R_next s ds d s' → ds.length = 1 := fun s ds d s' ⟨_, _, _, _, e, _⟩ => by rw [e]; rfl
  ok__law_next Y (spS_len hR) (runS hR rfl fun st s ds d s' ⟨x, m, h, e1, e2, e3, e4⟩ => by
    subst e1 e2 e3 e4
    exact sd_next_ h)
/-- a call of _law_next -/
theorem ed_next {i : Nat} {st : Addr} {te : TE} {x : StS} {m : Int} (a : At de i (.o st)) (h : ED K C te de om (.int m) om) (hm : 0 < m ∧ m ≤ 1000) (ha : OmAt om st (.l (encS x))) (hs : OmSet om st (.l (encS (nextF x m).2)) om') :
    ED K C (tCall (spS K C R_next) [] E0 (tCons (tVar i) (tCons te tNil))) de om (.int (nextF x m).1) om' := ed_scall a (ad_cons h ad_nil) ha ⟨x, m, hm, rfl, rfl, rfl, rfl⟩ hs
/-! _law_coordinate -/
def coordF (s : StS) (m : Int) : Int × StS := ((nextF s (2 * m + 1)).1 - m, (nextF s (2 * m + 1)).2)
theorem coord_rng (s : StS) {m : Int} (h : 0 ≤ m) : -m ≤ (coordF s m).1 ∧ (coordF s m).1 ≤ m := by
  have := next_rng s (m := 2 * m + 1) (by omega)
  unfold coordF
  simp only
  omega
def R_coord (s : List D) (ds : List D) (d : D) (s' : List D) : Prop := ∃ (x : StS) (m : Int), (0 ≤ m ∧ m ≤ 400) ∧ s = encS x ∧ ds = [.int m] ∧ d = .int (coordF x m).1 ∧ s' = encS (coordF x m).2
theorem has__law_coordinate (Y : FX K mg Z) : Has P w K mg base 2 "_law_coordinate" ["_law_stream_here", "_law_most"] (spS K Z.C R_coord) :=
  have hR : ∀ s ds d s', R_coord s ds d s' → ds.length = 1 := fun s ds d s' ⟨_, _, _, _, e, _⟩ => by rw [e]; rfl
  ok__law_coordinate Y (has__law_next Y) (spS_len hR) (runS hR rfl fun st s ds d s' ⟨x, m, h, e1, e2, e3, e4⟩ => by
    subst e1 e2 e3 e4
    exact sd_ret (ed_op (ed_next .z (ed_op (ed_op ed_int v1 (od_mul (CMul.l (by decide)))) ed_int od_add) (by omega) .z .z) v1 od_sub) ⟨rfl, .z⟩)
theorem ed_coord {i : Nat} {st : Addr} {te : TE} {x : StS} {m : Int} (a : At de i (.o st)) (h : ED K C te de om (.int m) om) (hm : 0 ≤ m ∧ m ≤ 400) (ha : OmAt om st (.l (encS x))) (hs : OmSet om st (.l (encS (coordF x m).2)) om') :
    ED K C (tCall (spS K C R_coord) [] E0 (tCons (tVar i) (tCons te tNil))) de om (.int (coordF x m).1) om' := ed_scall a (ad_cons h ad_nil) ha ⟨x, m, hm, rfl, rfl, rfl, rfl⟩ hs
/-! _law_ring -/
def ringOf (k x y w h : Int) : List Pt :=
  if k = 0 then [(x, y), (x + w, y), (x + w, y + h), (x, y + h)]
  else if k = 1 then [(x, y), (x + w, y), (x, y + h)]
  else if k = 2 then [(x, y), (x + w, y - h), (x + 2 * w, y), (x + w, y + h)]
  else [(x, y), (x + 2 * w, y), (x + 2 * w, y + 2 * h), (x + w, y + h), (x, y + 2 * h)]
def rg1 (s : StS) (m : Int) := coordF s m
def rg2 (s : StS) (m : Int) := coordF (rg1 s m).2 m
def rg3 (s : StS) (m : Int) := nextF (rg2 s m).2 m
def rg4 (s : StS) (m : Int) := nextF (rg3 s m).2 m
def rg5 (s : StS) (m : Int) := nextF (rg4 s m).2 4
def ringF (s : StS) (m : Int) : List Pt × StS := (ringOf (rg5 s m).1 (rg1 s m).1 (rg2 s m).1 (1 + (rg3 s m).1) (1 + (rg4 s m).1), (rg5 s m).2)
def R_ring (s : List D) (ds : List D) (d : D) (s' : List D) : Prop := ∃ (x : StS) (m : Int), (1 ≤ m ∧ m ≤ 400) ∧ s = encS x ∧ ds = [.int m] ∧ d = dR (ringF x m).1 ∧ s' = encS (ringF x m).2
theorem sd_ring {st : Addr} {s : StS} {m : Int} (hm : 1 ≤ m ∧ m ≤ 400) : SD K C (t__law_ring K Z (spS K C R_coord) (spS K C R_next)) [.o st, .d (.int m), .no, .no, .no, .no, .no] [(st, .l (encS s))] (finS st (dR (ringF s m).1) (encS (ringF s m).2)) := by
  refine sd_seq (sd_asg (ed_coord (x := s) .z v1 (by omega) .z .z) w2 ?_)
  refine sd_seq (sd_asg (ed_coord (x := (rg1 s m).2) .z v1 (by omega) .z .z) w3 ?_)
  refine sd_seq (sd_asg (ed_op ed_int (ed_next (x := (rg2 s m).2) .z v1 (by omega) .z .z) od_add) w4 ?_)
  refine sd_seq (sd_asg (ed_op ed_int (ed_next (x := (rg3 s m).2) .z v1 (by omega) .z .z) od_add) w5 ?_)
  refine sd_seq (sd_asg (ed_next (x := (rg4 s m).2) .z ed_int (by decide) .z .z) w6 ?_)
  show SD K C _ [.o st, .d (.int m), .d (.int (rg1 s m).1), .d (.int (rg2 s m).1), .d (.int (1 + (rg3 s m).1)), .d (.int (1 + (rg4 s m).1)), .d (.int (rg5 s m).1)] [(st, .l (encS (rg5 s m).2))] _
  have e : ringF s m = (ringOf (rg5 s m).1 (rg1 s m).1 (rg2 s m).1 (1 + (rg3 s m).1) (1 + (rg4 s m).1), (rg5 s m).2) := rfl
  rw [e]
  generalize (rg5 s m).1 = k
  generalize (rg5 s m).2 = s5
  generalize (rg1 s m).1 = x
  generalize (rg2 s m).1 = y
  generalize 1 + (rg3 s m).1 = ww
  generalize 1 + (rg4 s m).1 = hh
  unfold ringOf
  refine sd_seq (sd_if (td_test (ed_op v6 ed_int od_eqI)) (fun z => ?_) fun z => sd_next ?_)
  · rw [if_pos (of_decide_eq_true z)]
    exact sd_ret (ed_tup (ad_cons (ed_tup2 v2 v3) (ad_cons (ed_tup2 (ed_op v2 v4 od_add) v3) (ad_cons (ed_tup2 (ed_op v2 v4 od_add) (ed_op v3 v5 od_add)) (ad_cons (ed_tup2 v2 (ed_op v3 v5 od_add)) ad_nil)))) (nle rfl)) ⟨rfl, .z⟩
  rw [if_neg (of_decide_eq_false z)]
  refine sd_seq (sd_if (td_test (ed_op v6 ed_int od_eqI)) (fun z => ?_) fun z => sd_next ?_)
  · rw [if_pos (of_decide_eq_true z)]
    exact sd_ret (ed_tup (ad_cons (ed_tup2 v2 v3) (ad_cons (ed_tup2 (ed_op v2 v4 od_add) v3) (ad_cons (ed_tup2 v2 (ed_op v3 v5 od_add)) ad_nil))) (nle rfl)) ⟨rfl, .z⟩
  rw [if_neg (of_decide_eq_false z)]
  refine sd_seq (sd_if (td_test (ed_op v6 ed_int od_eqI)) (fun z => ?_) fun z => sd_next ?_)
  · rw [if_pos (of_decide_eq_true z)]
    exact sd_ret (ed_tup (ad_cons (ed_tup2 v2 v3) (ad_cons (ed_tup2 (ed_op v2 v4 od_add) (ed_op v3 v5 od_sub)) (ad_cons (ed_tup2 (ed_op v2 (ed_op ed_int v4 (od_mul (CMul.l (by decide)))) od_add) v3) (ad_cons (ed_tup2 (ed_op v2 v4 od_add) (ed_op v3 v5 od_add)) ad_nil)))) (nle rfl)) ⟨rfl, .z⟩
  rw [if_neg (of_decide_eq_false z)]
  exact sd_ret (ed_tup (ad_cons (ed_tup2 v2 v3) (ad_cons (ed_tup2 (ed_op v2 (ed_op ed_int v4 (od_mul (CMul.l (by decide)))) od_add) v3) (ad_cons (ed_tup2 (ed_op v2 (ed_op ed_int v4 (od_mul (CMul.l (by decide)))) od_add) (ed_op v3 (ed_op ed_int v5 (od_mul (CMul.l (by decide)))) od_add)) (ad_cons (ed_tup2 (ed_op v2 v4 od_add) (ed_op v3 v5 od_add)) (ad_cons (ed_tup2 v2 (ed_op v3 (ed_op ed_int v5 (od_mul (CMul.l (by decide)))) od_add)) ad_nil))))) (nle rfl)) ⟨rfl, .z⟩
theorem has__law_ring (Y : FX K mg Z) : Has P w K mg base 3 "_law_ring" ["_law_stream_here", "_law_most"] (spS K Z.C R_ring) :=
  have hR : ∀ s ds d s', R_ring s ds d s' → ds.length = 1 := fun s ds d s' ⟨_, _, _, _, e, _⟩ => by rw [e]; rfl
  ok__law_ring Y (has__law_coordinate Y) (has__law_next Y) (spS_len hR) (runS hR rfl fun st s ds d s' ⟨x, m, h, e1, e2, e3, e4⟩ => by
    subst e1 e2 e3 e4
    exact sd_ring h)
end
end TA

/-! The law's defs, 2: shapes, map, looks, style. -/
namespace TA
open PySem L2
section
variable {P : Program} {w : World} {K : PySem.W.Frag} {mg : Str → Option Value} {base : Heap} {Z : Cst} {C : Addr} {de : List Sl} {om om' : Om}
/-! _law_shape -/
def ptS (s : StS) (m : Int) : Pt × StS := (((coordF s m).1, (coordF (coordF s m).2 m).1), (coordF (coordF s m).2 m).2)
def lastP (ps : List Pt) : Pt := ps.getD (ps.length - 1) (0, 0)
def offP (p q : Pt) : Pt := if p = q then (p.1 + 1, p.2) else p
def lnS (s : StS) (ps : List Pt) (m : Int) : Nat → StS × List Pt
  | 0 => (s, ps)
  | i + 1 => ((ptS (lnS s ps m i).1 m).2, (lnS s ps m i).2 ++ [offP (ptS (lnS s ps m i).1 m).1 (lastP (lnS s ps m i).2)])
def rgS (s : StS) (m : Int) : Nat → StS
  | 0 => s
  | i + 1 => (ringF (rgS s m i) m).2
def shapeF (s : StS) (m : Int) : Sh × StS :=
  let p := nextF s 4
  if p.1 = 0 then (.pt (ptS p.2 m).1, (ptS p.2 m).2)
  else if p.1 = 1 then
    let n := nextF (ptS p.2 m).2 4
    let r := lnS n.2 [(ptS p.2 m).1] m (1 + n.1).toNat
    (.ln r.2, r.1)
  else
    let n := nextF p.2 2
    (.ar ((List.range (1 + n.1).toNat).map fun i => (ringF (rgS n.2 m i) m).1), rgS n.2 m (1 + n.1).toNat)
theorem ed_ring {i : Nat} {st : Addr} {te : TE} {x : StS} {m : Int} (a : At de i (.o st)) (h : ED K C te de om (.int m) om) (hm : 1 ≤ m ∧ m ≤ 400) (ha : OmAt om st (.l (encS x))) (hs : OmSet om st (.l (encS (ringF x m).2)) om') :
    ED K C (tCall (spS K C R_ring) [] E0 (tCons (tVar i) (tCons te tNil))) de om (dR (ringF x m).1) om' := ed_scall a (ad_cons h ad_nil) ha ⟨x, m, hm, rfl, rfl, rfl, rfl⟩ hs
theorem ed_ptS {i : Nat} {st : Addr} {te : TE} {x : StS} {m : Int} {om1 om2 : Om} (a : At de i (.o st)) (h : ED K C te de om (.int m) om) (h' : ED K C te de om1 (.int m) om1) (hm : 0 ≤ m ∧ m ≤ 400) (ha : OmAt om st (.l (encS x))) (hs : OmSet om st (.l (encS (coordF x m).2)) om1) (ha' : OmAt om1 st (.l (encS (coordF x m).2))) (hs' : OmSet om1 st (.l (encS (ptS x m).2)) om2) :
    ED K C (tTup (tCons (tCall (spS K C R_coord) [] E0 (tCons (tVar i) (tCons te tNil))) (tCons (tCall (spS K C R_coord) [] E0 (tCons (tVar i) (tCons te tNil))) tNil))) de om (dP (ptS x m).1) om2 :=
  ed_tup (ad_cons (ed_coord a h hm ha hs) (ad_cons (ed_coord a h' hm ha' hs') ad_nil)) (nle rfl)
theorem lnS_len (s : StS) (ps : List Pt) (m : Int) (i : Nat) : (lnS s ps m i).2.length = ps.length + i := by
  induction i with
  | zero => rfl
  | succ i ih => rw [lnS, List.length_append, ih]; rfl
theorem at_last {ps : List Pt} (h : 1 ≤ ps.length) : atI (ps.map dP) (-1) = some (dP (lastP ps)) := by
  refine atI_neg1 ?_
  rw [List.length_map]
  exact dR_get (by omega)
def R_shape (s : List D) (ds : List D) (d : D) (s' : List D) : Prop := ∃ (x : StS) (m : Int), (1 ≤ m ∧ m ≤ 400) ∧ s = encS x ∧ ds = [.int m] ∧ d = dSh (shapeF x m).1 ∧ s' = encS (shapeF x m).2
theorem sd_shape {st : Addr} {s : StS} {m : Int} (hm : 1 ≤ m ∧ m ≤ 400) : SD K C (t__law_shape K Z (spS K C R_next) (spS K C R_coord) (spS K C R_ring)) [.o st, .d (.int m), .no, .no, .no, .no] [(st, .l (encS s))] (finS st (dSh (shapeF s m).1) (encS (shapeF s m).2)) := by
  have hm2 : 0 ≤ m ∧ m ≤ 400 := by omega
  refine sd_seq (sd_asg (ed_next (x := s) .z ed_int (by decide) .z .z) w2 ?_)
  unfold shapeF
  simp only
  refine sd_seq (sd_if (td_test (ed_op v2 ed_int od_eqI)) (fun z => ?_) fun z => sd_next ?_)
  · rw [if_pos (of_decide_eq_true z)]
    exact sd_ret (ed_tup (ad_cons ed_str (ad_cons (ed_ptS (x := (nextF s 4).2) .z v1 v1 hm2 .z .z .z .z) ad_nil)) (nle rfl)) ⟨rfl, .z⟩
  rw [if_neg (of_decide_eq_false z)]
  refine sd_seq (sd_if (td_test (ed_op v2 ed_int od_eqI)) (fun z => ?_) fun z => sd_next ?_)
  · rw [if_pos (of_decide_eq_true z)]
    have hn := next_rng (ptS (nextF s 4).2 m).2 (m := 4) (by decide)
    refine sd_seq (sd_new (ds := [dP (ptS (nextF s 4).2 m).1]) (en_lst (ad_cons (ed_ptS (x := (nextF s 4).2) .z v1 v1 hm2 .z .z .z .z) ad_nil) (nle rfl)) fun b => ⟨_, w3, ?_⟩)
    refine sd_seq (sd_for (il_r1 (ad_cons (ed_op ed_int (ed_next (x := (ptS (nextF s 4).2 m).2) .z ed_int (by decide) .z .z) od_add) ad_nil) (by omega) (by omega)) (fun _ => [.o st, .d (.int m), .no, .o b, .no, .no])
      (fun i => [(st, .l (encS (lnS (nextF (ptS (nextF s 4).2 m).2 4).2 [(ptS (nextF s 4).2 m).1] m i).1)), (b, .l ((lnS (nextF (ptS (nextF s 4).2 m).2 4).2 [(ptS (nextF s 4).2 m).1] m i).2.map dP))]) (by repeat constructor) (List.Sublist.refl _) (fun i d hd => ?_) ?_)
    · obtain ⟨hi, rfl⟩ := rngD_at hd
      have hl := lnS_len (nextF (ptS (nextF s 4).2 m).2 4).2 [(ptS (nextF s 4).2 m).1] m i
      refine ⟨_, _, gd_name w4, ?_⟩
      generalize hx : lnS (nextF (ptS (nextF s 4).2 m).2 4).2 [(ptS (nextF s 4).2 m).1] m i = X at hl
      have e1 : lnS (nextF (ptS (nextF s 4).2 m).2 4).2 [(ptS (nextF s 4).2 m).1] m (i + 1) = ((ptS X.1 m).2, X.2 ++ [offP (ptS X.1 m).1 (lastP X.2)]) := by rw [lnS, hx]
      refine sd_seq (sd_asg (ed_ptS (x := X.1) .z v1 v1 hm2 .z .z .z .z) w5 ?_)
      have fin_ : ∀ q : Pt, q = offP (ptS X.1 m).1 (lastP X.2) → SD K C (tDrop (tBM K "list" rAppend (tVar 3) (tCons (tVar 5) tNil))) [.o st, .d (.int m), .no, .o b, .d (.int (0 + (i : Nat))), .d (dP q)] [(st, .l (encS (ptS X.1 m).2)), (b, .l (X.2.map dP))]
          ⟨fun de' om' => Wk de' [.o st, .d (.int m), .no, .o b, .no, .no] ∧ ([(st, Ow.l (encS (lnS (nextF (ptS (nextF s 4).2 m).2 4).2 [(ptS (nextF s 4).2 m).1] m (i + 1)).1)), (b, Ow.l ((lnS (nextF (ptS (nextF s 4).2 m).2 4).2 [(ptS (nextF s 4).2 m).1] m (i + 1)).2.map dP))] : Om).Sublist om', fun _ _ => False, fun _ _ => False, fun _ _ => False⟩ := fun q hq => by
        refine sd_app (.s (.s (.s .z))) v5 (.s .z) (.s .z) (by rw [List.length_map, hl, List.length_singleton]; omega) (.s .z) ⟨by repeat constructor, ?_⟩
        rw [e1, hq, List.map_append]
        exact List.Sublist.refl _
      refine sd_seq (sd_if (b := decide ((ptS X.1 m).1 = lastP X.2)) (td_test (ed_op v5 (ed_ixO (.s (.s (.s .z))) (ed_neg ed_int) (.s .z) (at_last (by rw [hl]; exact Nat.le_add_right _ _))) od_eqP)) (fun z => ?_) fun z => sd_next ?_)
      · refine sd_wk (de' := [.o st, .d (.int m), .no, .o b, .d (.int (0 + (i : Nat))), .d (dP (ptS X.1 m).1)]) (by repeat constructor) (List.Sublist.refl _) ?_
        refine sd_asg (ed_tup2 (ed_op (ed_op v5 ed_int (od_ixT ix0)) ed_int od_add) (ed_op v5 ed_int (od_ixT ix1))) w5 ?_
        refine sd_post (fin_ ((ptS X.1 m).1.1 + 1, (ptS X.1 m).1.2) ?_) (fun _ _ h => h) (fun _ _ h => h.elim) (fun _ _ h => h.elim) (fun _ _ h => h.elim)
        unfold offP
        rw [if_pos (of_decide_eq_true z)]
      · refine sd_wk (de' := [.o st, .d (.int m), .no, .o b, .d (.int (0 + (i : Nat))), .d (dP (ptS X.1 m).1)]) (by repeat constructor) (List.Sublist.refl _) ?_
        refine sd_post (fin_ (ptS X.1 m).1 ?_) (fun _ _ h => h) (fun _ _ h => h.elim) (fun _ _ h => h.elim) (fun _ _ h => h.elim)
        unfold offP
        rw [if_neg (of_decide_eq_false z)]
    · rw [rngD_len]
      exact sd_frz (.s (.s (.s .z))) (.s .z) w3 (sd_ret (ed_tup2 ed_str (ed_tupOf v3)) ⟨rfl, .z⟩)
  rw [if_neg (of_decide_eq_false z)]
  have hn := next_rng (nextF s 4).2 (m := 2) (by decide)
  have q := en_lc (K := K) (C := C) (vs := [4]) (g := gName 4) (tt := tYes) (te := tCall (spS K C R_ring) [] E0 (tCons (tVar 0) (tCons (tVar 1) tNil))) (il_r1 (K := K) (C := C) (de := [.o st, .d (.int m), .d (.int (nextF s 4).1), .no, .no, .no]) (om := [(st, .l (encS (nextF s 4).2))]) (om1 := [(st, .l (encS (nextF (nextF s 4).2 2).2))]) (tr := tCons (tOp rAd (tC (.int 1)) (tCall (spS K C R_next) [] E0 (tCons (tVar 0) (tCons (tC (.int 2)) tNil)))) tNil) (n := 1 + (nextF (nextF s 4).2 2).1)
      (ad_cons (ed_op ed_int (ed_next (x := (nextF s 4).2) .z ed_int (by decide) .z .z) od_add) ad_nil) (by omega) (by omega))
    (fun _ => true) (fun i => dR (ringF (rgS (nextF (nextF s 4).2 2).2 m i) m).1) (fun i => [(st, .l (encS (rgS (nextF (nextF s 4).2 2).2 m i)))]) rfl (by rw [rngD_len]; omega) fun i d hd => by
      obtain ⟨hi, rfl⟩ := rngD_at hd
      refine ⟨_, _, gd_name w4, mem1 (by simp), td_yes, ?_⟩
      rw [if_pos rfl]
      exact ed_ring (x := rgS (nextF (nextF s 4).2 2).2 m i) .z v1 hm .z .z
  rw [gen_all, rngD_len] at q
  refine sd_ret (ed_is (ed_tup (ad_cons ed_str (ad_cons (ed_tupOf (ed_frz q)) ad_nil)) (nle rfl)) ?_) ⟨rfl, .z⟩
  show _ = D.tup [.str "area", .tup (List.map dR ((List.range _).map _))]
  rw [List.map_map]
  rfl
theorem has__law_shape (Y : FX K mg Z) : Has P w K mg base 4 "_law_shape" ["_law_stream_here", "_law_most"] (spS K Z.C R_shape) :=
  have hR : ∀ s ds d s', R_shape s ds d s' → ds.length = 1 := fun s ds d s' ⟨_, _, _, _, e, _⟩ => by rw [e]; rfl
  ok__law_shape Y (has__law_next Y) (has__law_coordinate Y) (has__law_ring Y) (spS_len hR) (runS hR rfl fun st s ds d s' ⟨x, m, h, e1, e2, e3, e4⟩ => by
    subst e1 e2 e3 e4
    exact sd_shape h)
theorem ed_shape {i : Nat} {st : Addr} {te : TE} {x : StS} {m : Int} (a : At de i (.o st)) (h : ED K C te de om (.int m) om) (hm : 1 ≤ m ∧ m ≤ 400) (ha : OmAt om st (.l (encS x))) (hs : OmSet om st (.l (encS (shapeF x m).2)) om') :
    ED K C (tCall (spS K C R_shape) [] E0 (tCons (tVar i) (tCons te tNil))) de om (dSh (shapeF x m).1) om' := ed_scall a (ad_cons h ad_nil) ha ⟨x, m, hm, rfl, rfl, rfl, rfl⟩ hs
/-! _law_map -/
def kindF (r : Int) : Str := if r = 0 then "farm" else if r = 1 then "way" else "pond"
def nameF (i : Nat) : Str := ("thing" : Str) ++ (toString (0 + (i : Int)) : Str)
def thF (s : StS) (m : Int) (i : Nat) : Th := ⟨nameF i, kindF (nextF s 3).1, (shapeF (nextF s 3).2 m).1⟩
def thS (s : StS) (m : Int) : StS := (shapeF (nextF s 3).2 m).2
def mpS (s : StS) (m : Int) : Nat → StS × List Th
  | 0 => (s, [])
  | i + 1 => (thS (mpS s m i).1 m, (mpS s m i).2 ++ [thF (mpS s m i).1 m i])
def mapF (s : StS) (m : Int) : List Th × StS := ((mpS (nextF s 5).2 m (nextF s 5).1.toNat).2, (mpS (nextF s 5).2 m (nextF s 5).1.toNat).1)
theorem kind_at {r : Int} (h : 0 ≤ r ∧ r < 3) : atI [D.str "farm", .str "way", .str "pond"] r = some (.str (kindF r)) := by
  have : r = 0 ∨ r = 1 ∨ r = 2 := by omega
  rcases this with rfl | rfl | rfl
  · exact atI_nat (j := 0) rfl
  · exact atI_nat (j := 1) rfl
  · exact atI_nat (j := 2) rfl
theorem mpS_len (s : StS) (m : Int) (i : Nat) : (mpS s m i).2.length = i := by
  induction i with
  | zero => rfl
  | succ i ih => rw [mpS, List.length_append, ih]; rfl
def R_map (s : List D) (ds : List D) (d : D) (s' : List D) : Prop := ∃ (x : StS) (m : Int), (1 ≤ m ∧ m ≤ 400) ∧ s = encS x ∧ ds = [.int m] ∧ d = dMap (mapF x m).1 ∧ s' = encS (mapF x m).2
theorem sd_map {st : Addr} {s : StS} {m : Int} (hm : 1 ≤ m ∧ m ≤ 400) : SD K C (t__law_map K Z (spS K C R_next) (spS K C R_shape)) [.o st, .d (.int m), .no, .no, .no] [(st, .l (encS s))] (finS st (dMap (mapF s m).1) (encS (mapF s m).2)) := by
  have hn := next_rng s (m := 5) (by decide)
  refine sd_seq (sd_new (en_lst ad_nil (nle rfl)) fun b => ⟨_, w2, ?_⟩)
  refine sd_seq (sd_for (il_r1 (ad_cons (ed_next (x := s) .z ed_int (by decide) .z .z) ad_nil) (by omega) (by omega)) (fun _ => [.o st, .d (.int m), .o b, .no, .no])
    (fun i => [(st, .l (encS (mpS (nextF s 5).2 m i).1)), (b, .l ((mpS (nextF s 5).2 m i).2.map dTh))]) (by repeat constructor) (List.Sublist.refl _) (fun i d hd => ?_) ?_)
  · obtain ⟨hi, rfl⟩ := rngD_at hd
    have hl := mpS_len (nextF s 5).2 m i
    have e1 : mpS (nextF s 5).2 m (i + 1) = (thS (mpS (nextF s 5).2 m i).1 m, (mpS (nextF s 5).2 m i).2 ++ [thF (mpS (nextF s 5).2 m i).1 m i]) := rfl
    refine ⟨_, _, gd_name w3, ?_⟩
    generalize mpS (nextF s 5).2 m i = X at hl e1
    have hk := next_rng X.1 (m := 3) (by decide)
    refine sd_seq (sd_asg (ed_op (ed_frz (en_lst (ad_cons ed_str (ad_cons ed_str (ad_cons ed_str ad_nil))) (nle rfl))) (ed_next (x := X.1) .z ed_int (by decide) .z .z) (od_ixL (kind_at hk))) w4 ?_)
    have hi4 : i < 5 := by omega
    have hlog : (0 + (i : Int)).natAbs.log2 < 1920 := by
      have : i = 0 ∨ i = 1 ∨ i = 2 ∨ i = 3 ∨ i = 4 := by omega
      rcases this with rfl | rfl | rfl | rfl | rfl <;> decide
    have hs : ("thing" : Str).length + (toString (0 + (i : Int)) : Str).length ≤ 100000 := by
      have : i = 0 ∨ i = 1 ∨ i = 2 ∨ i = 3 ∨ i = 4 := by omega
      rcases this with rfl | rfl | rfl | rfl | rfl <;> decide
    refine sd_app (.s (.s .z)) (d := dTh (thF X.1 m i)) (ed_tup (ad_cons (ed_op ed_str (ed_cb (ad_cons v3 ad_nil) (cd_str1 hlog)) (od_addS hs)) (ad_cons v4 (ad_cons (ed_shape (x := (nextF X.1 3).2) .z v1 hm .z .z) ad_nil))) (nle rfl)) (.s .z) (.s .z) (by rw [List.length_map, hl]; omega) (.s .z) ⟨by repeat constructor, ?_⟩
    rw [e1, List.map_append]
    exact List.Sublist.refl _
  · rw [rngD_len]
    exact sd_frz (.s (.s .z)) (.s .z) w2 (sd_ret (ed_tupOf v2) ⟨rfl, .z⟩)
theorem has__law_map (Y : FX K mg Z) : Has P w K mg base 5 "_law_map" ["_law_stream_here", "_law_most"] (spS K Z.C R_map) :=
  have hR : ∀ s ds d s', R_map s ds d s' → ds.length = 1 := fun s ds d s' ⟨_, _, _, _, e, _⟩ => by rw [e]; rfl
  ok__law_map Y (has__law_next Y) (has__law_shape Y) (spS_len hR) (runS hR rfl fun st s ds d s' ⟨x, m, h, e1, e2, e3, e4⟩ => by
    subst e1 e2 e3 e4
    exact sd_map h)
/-! _law_look -/
def lk1 (s : StS) := nextF s 3
def lk2 (s : StS) := nextF (lk1 s).2 63
def lk3 (s : StS) := nextF (lk2 s).2 2
def mostF (r : Int) : Int := if r = 0 then 3 else 16
def lk4 (s : StS) := nextF (lk3 s).2 (mostF (lk3 s).1)
def lookF (s : StS) : Lk × StS :=
  if (lk1 s).1 = 0 then (.fill (1 + (lk2 s).1), (lk2 s).2)
  else if (lk1 s).1 = 1 then (.stroke (1 + (lk2 s).1) (1 + (lk4 s).1), (lk4 s).2)
  else (.dot (1 + (lk2 s).1) (1 + (lk4 s).1), (lk4 s).2)
def R_look (s : List D) (ds : List D) (d : D) (s' : List D) : Prop := ∃ x : StS, s = encS x ∧ ds = [] ∧ d = dLk (lookF x).1 ∧ s' = encS (lookF x).2
theorem sd_look {st : Addr} {s : StS} : SD K C (t__law_look K Z (spS K C R_next)) [.o st, .no, .no] [(st, .l (encS s))] (finS st (dLk (lookF s).1) (encS (lookF s).2)) := by
  have h1 := next_rng s (m := 3) (by decide)
  have h3 := next_rng (lk2 s).2 (m := 2) (by decide)
  refine sd_seq (sd_asg (ed_next (x := s) .z ed_int (by decide) .z .z) w1 ?_)
  refine sd_seq (sd_asg (ed_op ed_int (ed_next (x := (lk1 s).2) .z ed_int (by decide) .z .z) od_add) w2 ?_)
  show SD K C _ [.o st, .d (.int (lk1 s).1), .d (.int (1 + (lk2 s).1))] [(st, .l (encS (lk2 s).2))] _
  have most : atI [D.int 3, .int 16] (lk3 s).1 = some (.int (mostF (lk3 s).1)) ∧ 0 < mostF (lk3 s).1 ∧ mostF (lk3 s).1 ≤ 1000 := by
    have : (lk3 s).1 = 0 ∨ (lk3 s).1 = 1 := by
      have h4 : 0 ≤ (lk3 s).1 ∧ (lk3 s).1 < 2 := h3
      omega
    rcases this with z | z
    · rw [z]
      exact ⟨atI_nat (j := 0) rfl, by decide, by decide⟩
    · rw [z]
      exact ⟨atI_nat (j := 1) rfl, by decide, by decide⟩
  unfold lookF
  refine sd_seq (sd_if (td_test (ed_op v1 ed_int od_eqI)) (fun z => ?_) fun z => sd_next ?_)
  · rw [if_pos (of_decide_eq_true z)]
    exact sd_ret (ed_tup2 ed_str v2) ⟨rfl, .z⟩
  rw [if_neg (of_decide_eq_false z)]
  have z0 : (lk1 s).1 ≠ 0 := of_decide_eq_false z
  have h1' : 0 ≤ (lk1 s).1 ∧ (lk1 s).1 < 3 := h1
  have tl : AD K C (tCons (tVar 2) (tCons (tOp rAd (tC (.int 1)) (tCall (spS K C R_next) [] E0 (tCons (tVar 0) (tCons (tOp (rIxL K) (tLst (tCons (tC (.int 3)) (tCons (tC (.int 16)) tNil))) (tCall (spS K C R_next) [] E0 (tCons (tVar 0) (tCons (tC (.int 2)) tNil)))) tNil)))) tNil)) [.o st, .d (.int (lk1 s).1), .d (.int (1 + (lk2 s).1))] [(st, .l (encS (lk2 s).2))] [.int (1 + (lk2 s).1), .int (1 + (lk4 s).1)] [(st, .l (encS (lk4 s).2))] :=
    ad_cons v2 (ad_cons (ed_op ed_int (ed_scall (s := encS (lk3 s).2) .z (ad_cons (ed_op (ed_frz (en_lst (ad_cons ed_int (ad_cons ed_int ad_nil)) (nle rfl))) (ed_next (x := (lk2 s).2) .z ed_int (by decide) .z .z) (od_ixL most.1)) ad_nil) .z ⟨(lk3 s).2, mostF (lk3 s).1, most.2, rfl, rfl, rfl, rfl⟩ .z) od_add) ad_nil)
  by_cases z1 : (lk1 s).1 = 1
  · rw [if_pos z1]
    exact sd_ret (ed_tup (ad_cons (ed_op (ed_frz (en_lst (ad_cons ed_str (ad_cons ed_str ad_nil)) (nle rfl))) (ed_op v1 ed_int od_sub) (od_ixL (d := .str "stroke") (atI_of (j := 0) (by omega) rfl))) tl) (nle rfl)) ⟨rfl, .z⟩
  · rw [if_neg z1]
    exact sd_ret (ed_tup (ad_cons (ed_op (ed_frz (en_lst (ad_cons ed_str (ad_cons ed_str ad_nil)) (nle rfl))) (ed_op v1 ed_int od_sub) (od_ixL (d := .str "dot") (atI_of (j := 1) (by omega) rfl))) tl) (nle rfl)) ⟨rfl, .z⟩
theorem has__law_look (Y : FX K mg Z) : Has P w K mg base 2 "_law_look" ["_law_stream_here"] (spS K Z.C R_look) :=
  have hR : ∀ s ds d s', R_look s ds d s' → ds.length = 0 := fun s ds d s' ⟨_, _, e, _⟩ => by rw [e]; rfl
  ok__law_look Y (has__law_next Y) (spS_len hR) (runS hR rfl fun st s ds d s' ⟨x, e1, e2, e3, e4⟩ => by
    subst e1 e2 e3 e4
    exact sd_look)
/-! _law_style -/
def ru1 (s : StS) := nextF s 4
def ru2 (s : StS) := nextF (ru1 s).2 5
def ru3 (s : StS) := nextF (ru2 s).2 5
def ru4 (s : StS) := nextF (ru3 s).2 7
def kind5 (r : Int) : Str := if r = 0 then "" else if r = 1 then "" else if r = 2 then "farm" else if r = 3 then "way" else "pond"
def min2 (i j : Int) : Int := if j < i then j else i
def ruF (s : StS) : Ru × StS := (⟨kind5 (ru2 s).1, (ru1 s).1, min2 6 ((ru1 s).1 + (ru4 s).1), (ru3 s).1 - 2, (lookF (ru4 s).2).1⟩, (lookF (ru4 s).2).2)
def syS (s : StS) : Nat → StS × List Ru
  | 0 => (s, [])
  | i + 1 => ((ruF (syS s i).1).2, (syS s i).2 ++ [(ruF (syS s i).1).1])
def styF (s : StS) (l : Int) : List Ru × StS := ((syS (nextF s 6).2 (l + (nextF s 6).1).toNat).2, (syS (nextF s 6).2 (l + (nextF s 6).1).toNat).1)
theorem kind5_at {r : Int} (h : 0 ≤ r ∧ r < 5) : atI [D.str "", .str "", .str "farm", .str "way", .str "pond"] r = some (.str (kind5 r)) := by
  have : r = 0 ∨ r = 1 ∨ r = 2 ∨ r = 3 ∨ r = 4 := by omega
  rcases this with rfl | rfl | rfl | rfl | rfl
  · exact atI_nat (j := 0) rfl
  · exact atI_nat (j := 1) rfl
  · exact atI_nat (j := 2) rfl
  · exact atI_nat (j := 3) rfl
  · exact atI_nat (j := 4) rfl
theorem syS_len (s : StS) (i : Nat) : (syS s i).2.length = i := by
  induction i with
  | zero => rfl
  | succ i ih => rw [syS, List.length_append, ih]; rfl
def R_style (s : List D) (ds : List D) (d : D) (s' : List D) : Prop := ∃ (x : StS) (l : Int), (0 ≤ l ∧ l ≤ 10) ∧ s = encS x ∧ ds = [.int l] ∧ d = dSty (styF x l).1 ∧ s' = encS (styF x l).2
theorem sd_style {st : Addr} {s : StS} {l : Int} (hl : 0 ≤ l ∧ l ≤ 10) : SD K C (t__law_style K Z (spS K C R_next) (spS K C R_look)) [.o st, .d (.int l), .no, .no, .no, .no, .no] [(st, .l (encS s))] (finS st (dSty (styF s l).1) (encS (styF s l).2)) := by
  have hn := next_rng s (m := 6) (by decide)
  refine sd_seq (sd_new (en_lst ad_nil (nle rfl)) fun b => ⟨_, w2, ?_⟩)
  refine sd_seq (sd_for (il_r1 (ad_cons (ed_op v1 (ed_next (x := s) .z ed_int (by decide) .z .z) od_add) ad_nil) (by omega) (by omega)) (fun _ => [.o st, .d (.int l), .o b, .no, .no, .no, .no])
    (fun i => [(st, .l (encS (syS (nextF s 6).2 i).1)), (b, .l ((syS (nextF s 6).2 i).2.map dRu))]) (by repeat constructor) (List.Sublist.refl _) (fun i d hd => ?_) ?_)
  · obtain ⟨hi, rfl⟩ := rngD_at hd
    have hll := syS_len (nextF s 6).2 i
    have e1 : syS (nextF s 6).2 (i + 1) = ((ruF (syS (nextF s 6).2 i).1).2, (syS (nextF s 6).2 i).2 ++ [(ruF (syS (nextF s 6).2 i).1).1]) := rfl
    refine ⟨_, _, gd_name w3, ?_⟩
    generalize syS (nextF s 6).2 i = X at hll e1
    have hk := next_rng (ru1 X.1).2 (m := 5) (by decide)
    refine sd_seq (sd_asg (ed_next (x := X.1) .z ed_int (by decide) .z .z) w4 ?_)
    refine sd_seq (sd_asg (ed_op (ed_frz (en_lst (ad_cons ed_str (ad_cons ed_str (ad_cons ed_str (ad_cons ed_str (ad_cons ed_str ad_nil))))) (nle rfl))) (ed_next (x := (ru1 X.1).2) .z ed_int (by decide) .z .z) (od_ixL (kind5_at hk))) w5 ?_)
    refine sd_seq (sd_asg (ed_op (ed_next (x := (ru2 X.1).2) .z ed_int (by decide) .z .z) ed_int od_sub) w6 ?_)
    refine sd_app (.s (.s .z)) (d := dRu (ruF X.1).1) (ed_tup (ad_cons v5 (ad_cons v4 (ad_cons (ed_cb (ad_cons ed_int (ad_cons (ed_op v4 (ed_next (x := (ru3 X.1).2) .z ed_int (by decide) .z .z) od_add) ad_nil)) cd_min2) (ad_cons v6 (ad_cons (ed_scall (s := encS (ru4 X.1).2) .z ad_nil .z ⟨(ru4 X.1).2, rfl, rfl, rfl, rfl⟩ .z) ad_nil))))) (nle rfl)) (.s .z) (.s .z) (by rw [List.length_map, hll]; omega) (.s .z) ⟨by repeat constructor, ?_⟩
    rw [e1, List.map_append]
    exact List.Sublist.refl _
  · rw [rngD_len]
    exact sd_frz (.s (.s .z)) (.s .z) w2 (sd_ret (ed_tupOf v2) ⟨rfl, .z⟩)
theorem has__law_style (Y : FX K mg Z) : Has P w K mg base 3 "_law_style" ["_law_stream_here", "_law_least"] (spS K Z.C R_style) :=
  have hR : ∀ s ds d s', R_style s ds d s' → ds.length = 1 := fun s ds d s' ⟨_, _, _, _, e, _⟩ => by rw [e]; rfl
  ok__law_style Y (has__law_next Y) (has__law_look Y) (spS_len hR) (runS hR rfl fun st s ds d s' ⟨x, m, h, e1, e2, e3, e4⟩ => by
    subst e1 e2 e3 e4
    exact sd_style h)
end
end TA

/-! The law's defs, 3: what covers a pixel. Plain laws. -/
namespace TA
open PySem L2
/-! edges as the law takes them -/
def dblE (e : Pt × Pt) : Pt × Pt := (dbl e.1, dbl e.2)
def lnE (ps : List Pt) : List (Pt × Pt) := (List.range (ps.length - 1)).map fun k => (atP ps k, atP ps (k + 1))
def rgE (ps : List Pt) : List (Pt × Pt) := (List.range ps.length).map fun k => (atP ps k, atP ps ((k + 1) % ps.length))
def rawE : Sh → List (Pt × Pt)
  | .pt _ => []
  | .ln ps => lnE ps
  | .ar rs => rs.flatMap rgE
theorem atP_eq {ps : List Pt} {i : Nat} (h : i < ps.length) : ps[i]? = some (atP ps i) := by
  unfold atP
  rw [List.getD_eq_getElem?_getD, List.getElem?_eq_getElem h]
  rfl
theorem zip_get {α β : Type} {xs : List α} {ys : List β} {i : Nat} {a : α} {b : β} (h1 : xs[i]? = some a) (h2 : ys[i]? = some b) : (xs.zip ys)[i]? = some (a, b) :=
  List.getElem?_zip_eq_some.mpr ⟨h1, h2⟩
theorem lnE_ways (ps : List Pt) : waysF ps false = (lnE ps).map dblE := by
  have hl : (waysF ps false).length = ps.length - 1 := by
    unfold waysF
    rw [List.length_zip]
    simp
  apply List.ext_getElem?
  intro i
  by_cases hi : i < ps.length - 1
  · have a : (waysF ps false)[i]? = some (dbl (atP ps i), dbl (atP ps (i + 1))) := by
      unfold waysF
      refine zip_get ?_ ?_
      · rw [List.getElem?_append_left (by rw [List.length_map]; omega), List.getElem?_map, atP_eq (by omega)]
        rfl
      · rw [List.getElem?_drop, Nat.add_comm, List.getElem?_append_left (by rw [List.length_map]; omega), List.getElem?_map, atP_eq (by omega)]
        rfl
    rw [a]
    unfold lnE
    rw [List.getElem?_map, List.getElem?_map, List.getElem?_range hi]
    rfl
  · rw [List.getElem?_eq_none (by omega), List.getElem?_eq_none (by unfold lnE; simp; omega)]
theorem rgE_ways {ps : List Pt} (h : 1 ≤ ps.length) : waysF ps true = (rgE ps).map dblE := by
  have hl : (waysF ps true).length = ps.length := by
    unfold waysF
    rw [List.length_zip]
    simp
  apply List.ext_getElem?
  intro i
  by_cases hi : i < ps.length
  · have a : (waysF ps true)[i]? = some (dbl (atP ps i), dbl (atP ps ((i + 1) % ps.length))) := by
      unfold waysF
      refine zip_get ?_ ?_
      · rw [List.getElem?_append_left (by rw [List.length_map]; omega), List.getElem?_map, atP_eq hi]
        rfl
      · rw [List.getElem?_drop, Nat.add_comm]
        by_cases h1 : i + 1 < ps.length
        · rw [List.getElem?_append_left (by rw [List.length_map]; omega), List.getElem?_map, atP_eq h1, Nat.mod_eq_of_lt h1]
          rfl
        · have e : i + 1 = ps.length := by omega
          rw [e, Nat.mod_self, List.getElem?_append_right (by rw [List.length_map]; exact Nat.le_refl _), List.length_map, Nat.sub_self, if_pos rfl]
          rfl
    rw [a]
    unfold rgE
    rw [List.getElem?_map, List.getElem?_map, List.getElem?_range hi]
    rfl
  · rw [List.getElem?_eq_none (by omega), List.getElem?_eq_none (by unfold rgE; simp; omega)]
theorem raw_ways {s : Sh} (h : ShOk s) : wayEdges s = (rawE s).map dblE := by
  cases s with
  | pt p => rfl
  | ln ps => exact lnE_ways ps
  | ar rs =>
    obtain ⟨_, _, hr⟩ := h
    show (rs.flatMap fun r => waysF r true) = (rs.flatMap rgE).map dblE
    have : ∀ l : List (List Pt), (∀ r ∈ l, RingOk r) → (l.flatMap fun r => waysF r true) = (l.flatMap rgE).map dblE := by
      intro l
      induction l with
      | nil => intro _; rfl
      | cons r l ih =>
        intro hl
        have h3 := (hl r List.mem_cons_self).n3
        rw [List.flatMap_cons, List.flatMap_cons, List.map_append, rgE_ways (by omega), ih fun x hx => hl x (List.mem_cons_of_mem _ hx)]
    exact this rs hr
theorem raw_ok {s : Sh} (h : ShOk s) : ∀ e ∈ rawE s, PtOk e.1 ∧ PtOk e.2 := by
  cases s with
  | pt p => intro e he; cases he
  | ln ps =>
    intro e he
    obtain ⟨k, hk, rfl⟩ := List.mem_map.mp he
    have := List.mem_range.mp hk
    exact ⟨LineOk.pts h _ (List.mem_of_getElem? (atP_eq (by omega))), LineOk.pts h _ (List.mem_of_getElem? (atP_eq (by omega)))⟩
  | ar rs =>
    obtain ⟨_, _, hr⟩ := h
    intro e he
    obtain ⟨r, hr1, hr2⟩ := List.mem_flatMap.mp he
    obtain ⟨k, hk, rfl⟩ := List.mem_map.mp hr2
    have := List.mem_range.mp hk
    have h3 := (hr r hr1).n3
    exact ⟨(hr r hr1).pts _ (List.mem_of_getElem? (atP_eq (by omega))), (hr r hr1).pts _ (List.mem_of_getElem? (atP_eq (Nat.mod_lt _ (by omega))))⟩
/-! east of an edge, as the law says it -/
def eastL (x y : Int) (e : Pt × Pt) : Bool :=
  let a := if e.1.2 > e.2.2 then e.2 else e.1
  let b := if e.1.2 > e.2.2 then e.1 else e.2
  if 2 * a.2 ≤ y ∧ y < 2 * b.2 then decide (0 < (2 * b.1 - 2 * a.1) * (y - 2 * a.2) - (x - 2 * a.1) * (2 * b.2 - 2 * a.2)) else false
theorem east_eq (x y : Int) (e : Pt × Pt) : eastL x y e = eastF (x, y) (dblE e) := by
  have key : ∀ a b : Pt, (if 2 * a.2 ≤ y ∧ y < 2 * b.2 then decide (0 < (2 * b.1 - 2 * a.1) * (y - 2 * a.2) - (x - 2 * a.1) * (2 * b.2 - 2 * a.2)) else false) =
      (if (dbl a).2 ≤ y ∧ y < (dbl b).2 then decide (x * ((dbl b).2 - (dbl a).2) < (dbl a).1 * ((dbl b).2 - (dbl a).2) + ((dbl b).1 - (dbl a).1) * (y - (dbl a).2)) else false) := fun a b => by
    have e1 : (dbl a).1 = 2 * a.1 := rfl
    have e2 : (dbl a).2 = 2 * a.2 := rfl
    have e3 : (dbl b).1 = 2 * b.1 := rfl
    have e4 : (dbl b).2 = 2 * b.2 := rfl
    rw [e1, e2, e3, e4]
    by_cases h : 2 * a.2 ≤ y ∧ y < 2 * b.2
    · rw [if_pos h, if_pos h, Int.sub_mul x]
      rw [Bool.eq_iff_iff, decide_eq_true_eq, decide_eq_true_eq]
      omega
    · rw [if_neg h, if_neg h]
  unfold eastL eastF
  have hc : (e.1.2 > e.2.2) ↔ ((dblE e).1.2 > (dblE e).2.2) := by
    show (e.2.2 < e.1.2) ↔ (2 * e.2.2 < 2 * e.1.2)
    omega
  by_cases h : e.1.2 > e.2.2
  · simp only [if_pos h, if_pos (hc.mp h)]
    exact key e.2 e.1
  · simp only [if_neg h, if_neg (fun z => h (hc.mpr z))]
    exact key e.1 e.2
/-! parity -/
def oddF (x y : Int) (es : List (Pt × Pt)) : Bool := es.foldl (fun b e => if eastL x y e = true then !b else b) false
theorem fold_par {α : Type} (p : α → Bool) : ∀ (l : List α) (b : Bool), l.foldl (fun b e => if p e = true then !b else b) b = (b ^^ decide ((l.filter p).length % 2 = 1))
  | [], b => by simp
  | a :: l, b => by
    rw [List.foldl_cons, fold_par p l]
    by_cases h : p a = true
    · rw [if_pos h, List.filter_cons_of_pos h, List.length_cons]
      cases b
      · simp only [Bool.not_false, Bool.true_xor, Bool.false_xor]
        rw [Bool.eq_iff_iff]
        simp
        omega
      · simp only [Bool.not_true, Bool.true_xor, Bool.false_xor]
        rw [Bool.eq_iff_iff]
        simp
        omega
    · rw [if_neg h, List.filter_cons_of_neg h]
theorem odd_eq (x y : Int) {s : Sh} (h : ShOk s) : oddF x y (rawE s) = decide (((wayEdges s).filter fun e => eastF (x, y) e).length % 2 = 1) := by
  unfold oddF
  rw [fold_par, raw_ways h, List.filter_map, List.length_map, Bool.false_xor]
  have e : (fun e => eastL x y e) = (fun e => eastF (x, y) e) ∘ dblE := by
    funext e
    exact east_eq x y e
  have e2 : eastL x y = (fun e => eastF (x, y) e) ∘ dblE := e
  rw [e2]
/-! near an edge, as the law says it -/
def withinF (a b : Pt) (x y sq : Int) : Bool :=
  let ends := min2 ((x - 2 * a.1) * (x - 2 * a.1) + (y - 2 * a.2) * (y - 2 * a.2)) ((x - 2 * b.1) * (x - 2 * b.1) + (y - 2 * b.2) * (y - 2 * b.2))
  let ahead := (x - 2 * a.1) * (2 * b.1 - 2 * a.1) + (y - 2 * a.2) * (2 * b.2 - 2 * a.2)
  let behind := (x - 2 * b.1) * (2 * a.1 - 2 * b.1) + (y - 2 * b.2) * (2 * a.2 - 2 * b.2)
  if ahead ≤ 0 ∨ behind ≤ 0 then decide (ends ≤ sq)
  else decide (((2 * b.1 - 2 * a.1) * (y - 2 * a.2) - (2 * b.2 - 2 * a.2) * (x - 2 * a.1)) * ((2 * b.1 - 2 * a.1) * (y - 2 * a.2) - (2 * b.2 - 2 * a.2) * (x - 2 * a.1)) ≤ sq * ((2 * b.1 - 2 * a.1) * (2 * b.1 - 2 * a.1) + (2 * b.2 - 2 * a.2) * (2 * b.2 - 2 * a.2)))
theorem sqn (u : Int) : 0 ≤ u * u := by
  rcases Int.le_total 0 u with h | h
  · exact Int.mul_nonneg h h
  · have := Int.mul_nonneg (a := -u) (b := -u) (by omega) (by omega)
    rw [Int.neg_mul_neg] at this
    exact this
theorem near_core (dx dy u v sq : Int) :
    (if dx * u + dy * v ≤ 0 ∨ (dx - u) * (-u) + (dy - v) * (-v) ≤ 0 then decide (min2 (dx * dx + dy * dy) ((dx - u) * (dx - u) + (dy - v) * (dy - v)) ≤ sq)
      else decide ((u * dy - v * dx) * (u * dy - v * dx) ≤ sq * (u * u + v * v))) =
    (if dx * u + dy * v ≤ 0 then decide (dx * dx + dy * dy ≤ sq)
      else if u * u + v * v ≤ dx * u + dy * v then decide ((dx - u) * (dx - u) + (dy - v) * (dy - v) ≤ sq)
      else decide ((dx * v - dy * u) * (dx * v - dy * u) ≤ sq * (u * u + v * v))) := by
  have e1 : (dx - u) * (-u) + (dy - v) * (-v) = (u * u + v * v) - (dx * u + dy * v) := by
    simp only [Int.sub_mul, Int.mul_neg]
    omega
  have e2 : (dx - u) * (dx - u) + (dy - v) * (dy - v) = (dx * dx + dy * dy) - 2 * (dx * u + dy * v) + (u * u + v * v) := by
    simp only [Int.sub_mul, Int.mul_sub, Int.mul_comm u dx, Int.mul_comm v dy]
    omega
  have e3 : (u * dy - v * dx) * (u * dy - v * dx) = (dx * v - dy * u) * (dx * v - dy * u) := by
    have : u * dy - v * dx = -(dx * v - dy * u) := by
      rw [Int.mul_comm u dy, Int.mul_comm v dx]
      omega
    rw [this, Int.neg_mul_neg]
  have h0 : 0 ≤ u * u + v * v := by
    have a := sqn u
    have b := sqn v
    omega
  rw [e1, e2, e3]
  generalize dx * dx + dy * dy = d1
  generalize dx * u + dy * v = al at *
  generalize u * u + v * v = len at *
  by_cases h1 : al ≤ 0
  · rw [if_pos (.inl h1), if_pos h1]
    have : min2 d1 (d1 - 2 * al + len) = d1 := by
      unfold min2
      rw [if_neg (by omega)]
    rw [this]
  · rw [if_neg h1]
    by_cases h2 : len ≤ al
    · rw [if_pos (.inr (by omega)), if_pos h2]
      have : min2 d1 (d1 - 2 * al + len) = d1 - 2 * al + len := by
        unfold min2
        rw [if_pos (by omega)]
      rw [this]
    · rw [if_neg (by omega), if_neg h2]
theorem near_eq (a b : Pt) (x y sq : Int) : withinF a b x y sq = nearF (x, y) (dblE (a, b)) sq := by
  have h := near_core (x - 2 * a.1) (y - 2 * a.2) (2 * b.1 - 2 * a.1) (2 * b.2 - 2 * a.2) sq
  have f1 : x - 2 * a.1 - (2 * b.1 - 2 * a.1) = x - 2 * b.1 := by omega
  have f2 : y - 2 * a.2 - (2 * b.2 - 2 * a.2) = y - 2 * b.2 := by omega
  have f3 : -(2 * b.1 - 2 * a.1) = 2 * a.1 - 2 * b.1 := by omega
  have f4 : -(2 * b.2 - 2 * a.2) = 2 * a.2 - 2 * b.2 := by omega
  unfold withinF nearF
  simp only
  rw [f1, f2, f3, f4] at h
  refine h.trans ?_
  show _ = (if (x - 2 * a.1) * (2 * b.1 - 2 * a.1) + (y - 2 * a.2) * (2 * b.2 - 2 * a.2) ≤ 0 then _ else if (2 * b.1 - 2 * a.1) * (2 * b.1 - 2 * a.1) + (2 * b.2 - 2 * a.2) * (2 * b.2 - 2 * a.2) ≤ (x - 2 * a.1) * (2 * b.1 - 2 * a.1) + (y - 2 * a.2) * (2 * b.2 - 2 * a.2) then decide ((x - 2 * a.1 - (2 * b.1 - 2 * a.1)) * (x - 2 * a.1 - (2 * b.1 - 2 * a.1)) + (y - 2 * a.2 - (2 * b.2 - 2 * a.2)) * (y - 2 * a.2 - (2 * b.2 - 2 * a.2)) ≤ sq) else _)
  rw [f1, f2]
  rfl
theorem within_any (x y sq : Int) {s : Sh} (h : ShOk s) : ((rawE s).any fun e => withinF e.1 e.2 x y sq) = (wayEdges s).any fun e => nearF (x, y) e sq := by
  rw [raw_ways h, List.any_map]
  congr 1
  funext e
  exact near_eq e.1 e.2 x y sq
end TA

/-! The law's defs, 4: fits, marks, edges, covers, top. -/
namespace TA
open PySem L2
section
variable {P : Program} {w : World} {K : PySem.W.Frag} {mg : Str → Option Value} {base : Heap} {Z : Cst} {C : Addr} {de : List Sl} {om om' : Om}
/-! _law_fits -/
def dSS (a b : Str) : D := .tup [.str a, .str b]
theorem pySS (a b : Str) : (dSS a b).py = .tuple [.str a, .str b] := by simp [dSS, D.py, D.pys]
theorem fits_eq (l : Lk) (s : Sh) : ((D.pys [dSS "fill" "area", dSS "stroke" "line", dSS "stroke" "area", dSS "dot" "point"]).any fun z => PyData.eqv z (dSS (lkW l) (shW s)).py) = fitF l s := by
  have key : ∀ a b : Str, ((D.pys [dSS "fill" "area", dSS "stroke" "line", dSS "stroke" "area", dSS "dot" "point"]).any fun z => PyData.eqv z (dSS a b).py) =
      ((decide (("fill" : Str) = a) && decide (("area" : Str) = b)) || ((decide (("stroke" : Str) = a) && decide (("line" : Str) = b)) || ((decide (("stroke" : Str) = a) && decide (("area" : Str) = b)) || (decide (("dot" : Str) = a) && decide (("point" : Str) = b))))) := fun a b => by
    simp [D.pys, pySS, PyData.eqv, PyData.eqvAll, Bool.beq_eq_decide_eq]
  rw [key]
  cases l <;> cases s
  · exact (show _ = false by decide : ((decide (("fill" : Str) = "fill") && decide (("area" : Str) = "point")) || ((decide (("stroke" : Str) = "fill") && decide (("line" : Str) = "point")) || ((decide (("stroke" : Str) = "fill") && decide (("area" : Str) = "point")) || (decide (("dot" : Str) = "fill") && decide (("point" : Str) = "point"))))) = false)
  · exact (by decide : ((decide (("fill" : Str) = "fill") && decide (("area" : Str) = "line")) || ((decide (("stroke" : Str) = "fill") && decide (("line" : Str) = "line")) || ((decide (("stroke" : Str) = "fill") && decide (("area" : Str) = "line")) || (decide (("dot" : Str) = "fill") && decide (("point" : Str) = "line"))))) = false)
  · exact (by decide : ((decide (("fill" : Str) = "fill") && decide (("area" : Str) = "area")) || ((decide (("stroke" : Str) = "fill") && decide (("line" : Str) = "area")) || ((decide (("stroke" : Str) = "fill") && decide (("area" : Str) = "area")) || (decide (("dot" : Str) = "fill") && decide (("point" : Str) = "area"))))) = true)
  · exact (by decide : ((decide (("fill" : Str) = "stroke") && decide (("area" : Str) = "point")) || ((decide (("stroke" : Str) = "stroke") && decide (("line" : Str) = "point")) || ((decide (("stroke" : Str) = "stroke") && decide (("area" : Str) = "point")) || (decide (("dot" : Str) = "stroke") && decide (("point" : Str) = "point"))))) = false)
  · exact (by decide : ((decide (("fill" : Str) = "stroke") && decide (("area" : Str) = "line")) || ((decide (("stroke" : Str) = "stroke") && decide (("line" : Str) = "line")) || ((decide (("stroke" : Str) = "stroke") && decide (("area" : Str) = "line")) || (decide (("dot" : Str) = "stroke") && decide (("point" : Str) = "line"))))) = true)
  · exact (by decide : ((decide (("fill" : Str) = "stroke") && decide (("area" : Str) = "area")) || ((decide (("stroke" : Str) = "stroke") && decide (("line" : Str) = "area")) || ((decide (("stroke" : Str) = "stroke") && decide (("area" : Str) = "area")) || (decide (("dot" : Str) = "stroke") && decide (("point" : Str) = "area"))))) = true)
  · exact (by decide : ((decide (("fill" : Str) = "dot") && decide (("area" : Str) = "point")) || ((decide (("stroke" : Str) = "dot") && decide (("line" : Str) = "point")) || ((decide (("stroke" : Str) = "dot") && decide (("area" : Str) = "point")) || (decide (("dot" : Str) = "dot") && decide (("point" : Str) = "point"))))) = true)
  · exact (by decide : ((decide (("fill" : Str) = "dot") && decide (("area" : Str) = "line")) || ((decide (("stroke" : Str) = "dot") && decide (("line" : Str) = "line")) || ((decide (("stroke" : Str) = "dot") && decide (("area" : Str) = "line")) || (decide (("dot" : Str) = "dot") && decide (("point" : Str) = "line"))))) = false)
  · exact (by decide : ((decide (("fill" : Str) = "dot") && decide (("area" : Str) = "area")) || ((decide (("stroke" : Str) = "dot") && decide (("line" : Str) = "area")) || ((decide (("stroke" : Str) = "dot") && decide (("area" : Str) = "area")) || (decide (("dot" : Str) = "dot") && decide (("point" : Str) = "area"))))) = false)
theorem lkW_ok (l : Lk) : PyData.strOk (lkW l) = true := by
  cases l with
  | fill c => exact (by decide +kernel : PyData.strOk "fill" = true)
  | stroke c s => exact (by decide +kernel : PyData.strOk "stroke" = true)
  | dot c s => exact (by decide +kernel : PyData.strOk "dot" = true)
theorem shW_ok (l : Sh) : PyData.strOk (shW l) = true := by
  cases l with
  | pt c => exact (by decide +kernel : PyData.strOk "point" = true)
  | ln c => exact (by decide +kernel : PyData.strOk "line" = true)
  | ar c => exact (by decide +kernel : PyData.strOk "area" = true)
theorem has__law_fits (Y : FX K mg Z) : Has P w K mg base 1 "_law_fits" ["_law_look_here", "_law_shape_here"] (spD K Z.C R_fits) :=
  have hR : ∀ ds d, R_fits ds d → ds.length = 2 := fun ds d ⟨_, _, e, _⟩ => by rw [e]; rfl
  ok__law_fits Y (spD_len hR) (runP hR rfl fun ds d ⟨l, s, e, e2⟩ => by
    subst e e2
    have hl := ed_lkW (K := K) (C := Z.C) (de := [.d (dLk l), .d (dSh s)]) (om := []) (s := l) v0
    have hs := ed_shW (K := K) (C := Z.C) (de := [.d (dLk l), .d (dSh s)]) (om := []) (s := s) v1
    refine sd_ret (ed_is (ed_op (ed_tup2 hl hs) (ed_frz (en_lst (ad_cons (ed_tup2 ed_str ed_str) (ad_cons (ed_tup2 ed_str ed_str) (ad_cons (ed_tup2 ed_str ed_str) (ad_cons (ed_tup2 ed_str ed_str) ad_nil)))) (nle rfl))) (od_inD (by simp [D.pl, D.pls]) (by simp [D.pl, D.pls])
      (by simp [D.py, D.pys, SeqAt.shaped, PyData.canLay0, PyData.canLayAll0, PyData.depth, PyData.depthAll, lkW_ok, shW_ok]) (by simp [D.py, D.pys, SeqAt.shaped, PyData.canLay0, PyData.canLayAll0, PyData.depth, PyData.depthAll]; decide +kernel))) ?_) rfl
    exact congrArg D.bl (fits_eq l s))
/-! _law_marks -/
theorem sd__law_marks {ts : List Th} {rs : List Ru} {sc : Int} (h60 : ts.length ≤ 60) (h12 : rs.length ≤ 12) : SD K C (t__law_marks K Z (spD K C R_fits)) [.d (dMap ts), .d (dSty rs), .d (.int sc), .no, .no, .no, .no, .no, .no] [] (fin (.lst ((marksF ts rs sc).map dMk))) := by
  have bl : ∀ i, ((ts.take i).flatMap fun t => marksTh rs t sc).length ≤ 720 := fun i => by
    have h1 := flat_len (ts := ts.take i) (f := fun t => marksTh rs t sc) (n := 12) fun t => Nat.le_trans (marksTh_len rs t sc) h12
    have h2 : (ts.take i).length ≤ 60 := by
      rw [List.length_take]
      omega
    have h3 := Nat.mul_le_mul_right 12 h2
    omega
  refine sd_seq (sd_new (en_lst ad_nil (nle rfl)) fun a => ⟨_, w3, ?_⟩)
  refine sd_seq (sd_for (il_tup v0) (fun _ => [.d (dMap ts), .d (dSty rs), .d (.int sc), .o a, .no, .no, .no, .no, .no]) (fun i => [(a, .l (((ts.take i).flatMap fun t => marksTh rs t sc).map dMk))]) (by repeat constructor) (List.Sublist.refl _) (fun i d hd => ?_) ?_)
  · obtain ⟨t, ht, rfl, _⟩ := map_get hd
    refine ⟨_, _, gd_tup (gds_cons (gd_name w4) (gds_cons (gd_name w5) (gds_cons (gd_name w6) gds_nil))) rfl, ?_⟩
    refine sd_for (il_r1 (ad_cons (ed_lenT v1) ad_nil) (by rw [List.length_map]; omega) (by rw [List.length_map]; omega)) (fun _ => [.d (dMap ts), .d (dSty rs), .d (.int sc), .o a, .d (.str t.nm), .d (.str t.kd), .d (dSh t.sh), .no, .no])
      (fun j => [(a, .l (((ts.take i).flatMap fun t => marksTh rs t sc).map dMk ++ gen (fun j => appB (ruAt rs j) t sc) (fun j => dMk ((ruAt rs j).od, j, t.nm)) j))]) (by repeat constructor) (by unfold gen; rw [List.append_nil]; exact List.Sublist.refl _) (fun j d hd => ?_) ?_
    · obtain ⟨hj, rfl⟩ := rngD_at hd
      rw [List.length_map] at hj
      have hj2 : j < rs.length := by omega
      have hrk : (rs.map dRu)[j]? = some (dRu (ruAt rs j)) := by rw [List.getElem?_map, ruAt_lt hj2]; rfl
      have hgl := gen_len (fun j => appB (ruAt rs j) t sc) (fun j => dMk ((ruAt rs j).od, j, t.nm)) j
      have hb0 := bl i
      refine ⟨_, _, gd_name w7, ?_⟩
      refine sd_seq (sd_asg (ed_op v1 v7 (od_ixT (atI_of (j := j) (by omega) hrk))) w8 ?_)
      refine sd_if (b := appB (ruAt rs j) t sc) (td_is (td_and (td_test (ed_op (ed_op v8 ed_int (od_ixT ix0)) (ed_frz (en_lst (ad_cons ed_str (ad_cons v5 ad_nil)) (nle rfl))) (od_inLs (ss := ["", t.kd])))) fun _ => td_and (td_test (ed_chain (ed_op v8 ed_int (od_ixT ix1)) v2 od_le (fun _ => ed_op v8 ed_int (od_ixT ix2)) fun _ => od_le)) fun _ => td_B (ed_call (ad_cons (ed_op v8 ed_int (od_ixT ix4)) (ad_cons v6 ad_nil)) ⟨_, _, rfl, rfl⟩)) ?_) (fun hb => ?_) fun hb => ?_
      · have e : decide ((ruAt rs j).kd ∈ ([("" : Str), t.kd] : List Str)) = decide ((ruAt rs j).kd = "" ∨ (ruAt rs j).kd = t.kd) := by
          rw [Bool.eq_iff_iff, decide_eq_true_eq, decide_eq_true_eq]
          simp
        rw [e, ← Bool.and_assoc]
        rfl
      · refine sd_app (.s (.s (.s .z))) (d := dMk ((ruAt rs j).od, j, t.nm)) (ed_is (ed_tup (ad_cons (ed_op v8 ed_int (od_ixT ix3)) (ad_cons v7 (ad_cons v4 ad_nil))) (nle rfl)) ?_) .z .z ?_ .z ⟨by repeat constructor, ?_⟩
        · show D.tup [_, D.int (0 + (j : Nat)), _] = dMk _
          rw [Int.zero_add]
          rfl
        · rw [List.length_append, List.length_map]
          omega
        · show List.Sublist [(a, Ow.l (_ ++ gen _ _ (j + 1)))] _
          rw [gen, if_pos hb, ← List.append_assoc]
          exact List.Sublist.refl _
      · refine sd_next ⟨by repeat constructor, ?_⟩
        show List.Sublist [(a, Ow.l (_ ++ gen _ _ (j + 1)))] _
        rw [gen, if_neg (by rw [hb]; exact Bool.false_ne_true), List.append_nil]
        exact List.Sublist.refl _
    · refine ⟨by repeat constructor, ?_⟩
      rw [rngD_len, List.length_map, take_succ_flat ht, List.map_append]
      have e : gen (fun j => appB (ruAt rs j) t sc) (fun j => dMk ((ruAt rs j).od, j, t.nm)) (rs.length : Int).toNat = (marksTh rs t sc).map dMk := by
        rw [gen_eq, Int.toNat_natCast]
        unfold marksTh appL
        rw [List.map_map]
        rfl
      rw [e]
      exact List.Sublist.refl _
  · rw [List.length_map, List.take_length]
    refine sd_frz (.s (.s (.s .z))) .z w3 (sd_ret (ed_sortM v3 ?_) rfl)
    have := bl ts.length
    rw [List.take_length] at this
    exact Nat.le_trans this (by decide)
theorem has__law_marks (Y : FX K mg Z) : Has P w K mg base 2 "_law_marks" ["_law_things", "_law_style_here", "_law_scale"] (spD K Z.C R_marks_of) :=
  have hR : ∀ ds d, R_marks_of ds d → ds.length = 3 := fun ds d ⟨_, _, _, _, _, e, _⟩ => by rw [e]; rfl
  ok__law_marks Y (has__law_fits Y) (spD_len hR) (runP hR rfl fun ds d ⟨rs, t, sc, h, h2, e, e2⟩ => by
    subst e e2
    exact sd__law_marks h h2)
/-! _law_edges -/
def R__law_edges (ds : List D) (d : D) : Prop := ∃ s : Sh, ShOk s ∧ (∀ p, s ≠ .pt p) ∧ ds = [dSh s] ∧ d = .lst ((rawE s).map dE)
theorem sd__law_edges {s : Sh} (h : ShOk s) (hn : ∀ p, s ≠ .pt p) : SD K C (t__law_edges K Z) [.d (dSh s), .no, .no, .no] [] (fin (.lst ((rawE s).map dE))) := by
  cases s with
  | pt p => exact absurd rfl (hn p)
  | ln ps =>
    have h2 : 2 ≤ ps.length := LineOk.n2 h
    have h40 : ps.length ≤ 40 := LineOk.n40 h
    have hlen : (((ps.map dP).length : Nat) : Int) = ps.length := by rw [List.length_map]
    have q := en_map (K := K) (C := C) (vs := [3]) (g := gName 3) (te := tTup (tCons (tOp (rIxT K) (tOp (rIxT K) (tVar 0) (tC (.int 1))) (tVar 3)) (tCons (tOp (rIxT K) (tOp (rIxT K) (tVar 0) (tC (.int 1))) (tOp rAd (tVar 3) (tC (.int 1)))) tNil)))
      (il_r1 (K := K) (C := C) (de := [.d (dSh (.ln ps)), .no, .no, .no]) (om := []) (tr := tCons (tOp rSu (tCB (rLenA K) (tCons (tOp (rIxT K) (tVar 0) (tC (.int 1))) tNil)) (tC (.int 1))) tNil) (n := (ps.length : Nat) - 1) (ad_cons (ed_is (ed_op (ed_lenT (ed_op v0 ed_int (od_ixT ix1))) ed_int od_sub) (by rw [hlen])) ad_nil) (by omega) (by omega))
      (fun k => dE (atP ps k, atP ps (k + 1))) (by rw [rngD_len]; omega) fun i d hd => by
        obtain ⟨hi, rfl⟩ := rngD_at hd
        exact ⟨_, _, gd_name w3, mem1 (by simp), ed_tup2 (ed_op (ed_op v0 ed_int (od_ixT ix1)) v3 (od_ixT (at_z (i := i) (by omega) (by omega)))) (ed_op (ed_op v0 ed_int (od_ixT ix1)) (ed_op v3 ed_int od_add) (od_ixT (at_z (i := i + 1) (by omega) (by omega))))⟩
    rw [rngD_len, show ((ps.length : Nat) - 1 : Int).toNat = ps.length - 1 by omega] at q
    refine sd_seq (sd_ifT (td_is (td_test (ed_op (ed_op v0 ed_int (od_ixT ix0)) ed_str od_eqS)) rfl) (sd_ret (ed_is (ed_frz q) ?_) rfl))
    show _ = D.lst ((lnE ps).map dE)
    unfold lnE
    rw [List.map_map]
    rfl
  | ar rs =>
    obtain ⟨h1, h6, hr⟩ := h
    refine sd_seq (sd_ifF (td_is (td_test (ed_op (ed_op v0 ed_int (od_ixT ix0)) ed_str od_eqS)) (by decide)) (sd_next ?_))
    refine sd_seq (sd_new (en_lst ad_nil (nle rfl)) fun a => ⟨_, w1, ?_⟩)
    have gl : ∀ r, (rgE r).length = r.length := fun r => by unfold rgE; simp
    have bl : ∀ i, ((rs.take i).flatMap rgE).length ≤ 40 * i := fun i => by
      induction i with
      | zero => simp
      | succ i ih =>
        by_cases hi : i < rs.length
        · rw [take_succ_flat (List.getElem?_eq_getElem hi), List.length_append, gl]
          have h4 := (hr rs[i] (List.getElem_mem hi)).n40
          omega
        · rw [List.take_of_length_le (by omega)]
          rw [List.take_of_length_le (by omega)] at ih
          omega
    refine sd_seq (sd_for (il_tup (ed_op v0 ed_int (od_ixT ix1))) (fun _ => [.d (dSh (.ar rs)), .o a, .no, .no]) (fun i => [(a, .l (((rs.take i).flatMap rgE).map dE))]) (by repeat constructor) (List.Sublist.refl _) (fun i d hd => ?_) ?_)
    · obtain ⟨r, hg, rfl, hm⟩ := map_get hd
      have h3 := (hr r hm).n3
      have h4 := (hr r hm).n40
      have hi := (List.getElem?_eq_some_iff.mp hg).1
      have hb0 := bl i
      have hlen : (((r.map dP).length : Nat) : Int) = r.length := by rw [List.length_map]
      refine ⟨_, _, gd_name w2, ?_⟩
      refine sd_for (il_r1 (ad_cons (ed_lenT v2) ad_nil) (by omega) (by omega)) (fun _ => [.d (dSh (.ar rs)), .o a, .d (dR r), .no]) (fun j => [(a, .l (((rs.take i).flatMap rgE).map dE ++ ((rgE r).take j).map dE))]) (by repeat constructor) (by rw [List.take_zero, List.map_nil, List.append_nil]; exact List.Sublist.refl _) (fun j d hd => ?_) ?_
      · obtain ⟨hj, rfl⟩ := rngD_at hd
        have hj2 : j < r.length := by omega
        have hk : (j + 1) % r.length < r.length := Nat.mod_lt _ (by omega)
        have hg2 : (rgE r)[j]? = some (atP r j, atP r ((j + 1) % r.length)) := by
          unfold rgE
          rw [List.getElem?_map, List.getElem?_range hj2]
          rfl
        refine ⟨_, _, gd_name w3, ?_⟩
        refine sd_app (.s .z) (d := dE (atP r j, atP r ((j + 1) % r.length))) (ed_tup2 (ed_op v2 v3 (od_ixT (at_z (i := j) hj2 (by omega)))) (ed_op v2 (ed_op (ed_op v3 ed_int od_add) (ed_lenT v2) (od_mod (by omega))) (od_ixT (at_z (i := (j + 1) % r.length) hk ?_)))) .z .z ?_ .z ⟨by repeat constructor, ?_⟩
        · rw [hlen]
          have : (((j + 1) % r.length : Nat) : Int) = ((j + 1 : Nat) : Int) % (r.length : Nat) := by omega
          rw [this]
          congr 1
          omega
        · rw [List.length_append, List.length_map, List.length_map, List.length_take, gl]
          omega
        · rw [List.take_add_one, hg2, Option.toList_some, List.map_append, ← List.append_assoc]
          exact List.Sublist.refl _
      · refine ⟨by repeat constructor, ?_⟩
        rw [rngD_len, take_succ_flat hg, List.map_append, show (((r.map dP).length : Nat) : Int).toNat = (rgE r).length by rw [List.length_map, gl, Int.toNat_natCast], List.take_length]
        exact List.Sublist.refl _
    · rw [List.length_map, List.take_length]
      exact sd_frz (.s .z) .z w1 (sd_ret v1 rfl)
theorem has__law_edges (Y : FX K mg Z) : Has P w K mg base 1 "_law_edges" ["_law_shape_here"] (spD K Z.C R__law_edges) :=
  have hR : ∀ ds d, R__law_edges ds d → ds.length = 1 := fun ds d ⟨_, _, _, e, _⟩ => by rw [e]; rfl
  ok__law_edges Y (spD_len hR) (runP hR rfl fun ds d ⟨s, h1, h2, e, e2⟩ => by
    subst e e2
    exact sd__law_edges h1 h2)
/-! _law_is_odd -/
def R_is_odd (ds : List D) (d : D) : Prop := ∃ (s : Sh) (x y : Int), ShOk s ∧ (∀ p, s ≠ .pt p) ∧ BdP 300000 (x, y) ∧ ds = [dSh s, .int x, .int y] ∧ d = .bl (oddF x y (rawE s))
theorem odd_take {x y : Int} {es : List (Pt × Pt)} {i : Nat} {e : Pt × Pt} (h : es[i]? = some e) : oddF x y (es.take (i + 1)) = (if eastL x y e = true then !oddF x y (es.take i) else oddF x y (es.take i)) := by
  unfold oddF
  rw [List.take_add_one, h, List.foldl_append]
  rfl
theorem sd_is_odd {s : Sh} {x y : Int} (h : ShOk s) (hn : ∀ p, s ≠ .pt p) (hc : BdP 300000 (x, y)) : SD K C (t__law_is_odd K Z (spD K C R__law_edges)) [.d (dSh s), .d (.int x), .d (.int y), .no, .no, .no, .no] [] (fin (.bl (oddF x y (rawE s)))) := by
  obtain ⟨⟨c1, c2⟩, c3, c4⟩ := hc
  simp only at c1 c2 c3 c4
  refine sd_seq (sd_asg ed_bl w3 ?_)
  refine sd_seq (sd_for (il_lst (ed_call (ad_cons v0 ad_nil) ⟨s, h, hn, rfl, rfl⟩)) (fun i => [.d (dSh s), .d (.int x), .d (.int y), .d (.bl (oddF x y ((rawE s).take i))), .no, .no, .no]) (fun _ => []) (by repeat constructor) (List.Sublist.refl _) (fun i d hd => ?_) ?_)
  · obtain ⟨e, hg, rfl, hm⟩ := map_get hd
    obtain ⟨⟨⟨a1, a2⟩, a3, a4⟩, ⟨b1, b2⟩, b3, b4⟩ := raw_ok h e hm
    have ht := odd_take (x := x) (y := y) hg
    have rest : ∀ a b : Pt, PtOk a → PtOk b → eastL x y e = (if 2 * a.2 ≤ y ∧ y < 2 * b.2 then decide (0 < (2 * b.1 - 2 * a.1) * (y - 2 * a.2) - (x - 2 * a.1) * (2 * b.2 - 2 * a.2)) else false) →
        SD K C (tIfS (tTest (tChain rLe rL (tOp rMu (tC (.int 2)) (tOp (rIxT K) (tVar 4) (tC (.int 1)))) (tVar 2) (tOp rMu (tC (.int 2)) (tOp (rIxT K) (tVar 5) (tC (.int 1)))))) (tSeq (tAsg (tOp rSu (tOp rMu (tOp rSu (tOp rMu (tC (.int 2)) (tOp (rIxT K) (tVar 5) (tC (.int 0)))) (tOp rMu (tC (.int 2)) (tOp (rIxT K) (tVar 4) (tC (.int 0))))) (tOp rSu (tVar 2) (tOp rMu (tC (.int 2)) (tOp (rIxT K) (tVar 4) (tC (.int 1)))))) (tOp rMu (tOp rSu (tVar 1) (tOp rMu (tC (.int 2)) (tOp (rIxT K) (tVar 4) (tC (.int 0))))) (tOp rSu (tOp rMu (tC (.int 2)) (tOp (rIxT K) (tVar 5) (tC (.int 1)))) (tOp rMu (tC (.int 2)) (tOp (rIxT K) (tVar 4) (tC (.int 1))))))) (gName 6))
          (tIfS (tTest (tOp rG (tVar 6) (tC (.int 0)))) (tAsg (tNotV (tVar 3)) (gName 3)) tNext)) tNext)
          [.d (dSh s), .d (.int x), .d (.int y), .d (.bl (oddF x y ((rawE s).take i))), .d (dP a), .d (dP b), .no] []
          ⟨fun de' om' => Wk de' [.d (dSh s), .d (.int x), .d (.int y), .d (.bl (oddF x y ((rawE s).take (i + 1)))), .no, .no, .no] ∧ ([] : Om).Sublist om', fun _ _ => False, fun _ _ => False, fun _ _ => False⟩ := fun a b ha hb he => by
      obtain ⟨⟨p1, p2⟩, p3, p4⟩ := ha
      obtain ⟨⟨q1, q2⟩, q3, q4⟩ := hb
      rw [ht, he]
      refine sd_if (td_test (ed_chain (ed_op ed_int (ed_op v4 ed_int (od_ixT ix1)) (od_mul (CMul.l (by decide)))) v2 od_le (fun _ => ed_op ed_int (ed_op v5 ed_int (od_ixT ix1)) (od_mul (CMul.l (by decide)))) fun _ => od_lt)) (fun hz => ?_) fun hz => sd_next ?_
      · obtain ⟨y1, y2⟩ := Bool.and_eq_true_iff.mp hz
        have z : 2 * a.2 ≤ y ∧ y < 2 * b.2 := ⟨of_decide_eq_true y1, of_decide_eq_true y2⟩
        rw [if_pos z]
        refine sd_seq (sd_asg (ed_op (ed_op (ed_op (ed_op ed_int (ed_op v5 ed_int (od_ixT ix0)) (od_mul (CMul.l (by decide)))) (ed_op ed_int (ed_op v4 ed_int (od_ixT ix0)) (od_mul (CMul.l (by decide)))) od_sub) (ed_op v2 (ed_op ed_int (ed_op v4 ed_int (od_ixT ix1)) (od_mul (CMul.l (by decide)))) od_sub) (od_mul (CMul.l (by omega))))
          (ed_op (ed_op v1 (ed_op ed_int (ed_op v4 ed_int (od_ixT ix0)) (od_mul (CMul.l (by decide)))) od_sub) (ed_op (ed_op ed_int (ed_op v5 ed_int (od_ixT ix1)) (od_mul (CMul.l (by decide)))) (ed_op ed_int (ed_op v4 ed_int (od_ixT ix1)) (od_mul (CMul.l (by decide)))) od_sub) (od_mul (CMul.l (by omega)))) od_sub) w6 ?_)
        refine sd_if (td_test (ed_op v6 ed_int od_gt)) (fun hy => ?_) fun hy => sd_next ?_
        · rw [if_pos hy]
          exact sd_asg (ed_not v3) w3 ⟨by repeat constructor, List.Sublist.refl _⟩
        · rw [if_neg (by rw [hy]; exact Bool.false_ne_true)]
          exact ⟨by repeat constructor, List.Sublist.refl _⟩
      · have z : ¬ (2 * a.2 ≤ y ∧ y < 2 * b.2) := fun z => by
          rw [decide_eq_true z.1, decide_eq_true z.2] at hz
          cases hz
        rw [if_neg z, if_neg Bool.false_ne_true]
        exact ⟨by repeat constructor, List.Sublist.refl _⟩
    refine ⟨_, _, gd_tup (gds_cons (gd_name w4) (gds_cons (gd_name w5) gds_nil)) rfl, ?_⟩
    have hok := raw_ok h e hm
    refine sd_seq (sd_if (td_test (ed_op (ed_op v4 ed_int (od_ixT ix1)) (ed_op v5 ed_int (od_ixT ix1)) od_gt)) (fun hz => sd_par (ad_cons v5 (ad_cons v4 ad_nil)) w4 w5 ?_) fun hz => sd_next ?_)
    · refine sd_post (rest e.2 e.1 hok.2 hok.1 ?_) (fun _ _ h => h) (fun _ _ h => h.elim) (fun _ _ h => h.elim) (fun _ _ h => h.elim)
      have z : e.1.2 > e.2.2 := of_decide_eq_true hz
      unfold eastL
      simp only [if_pos z]
    · refine sd_post (rest e.1 e.2 hok.1 hok.2 ?_) (fun _ _ h => h) (fun _ _ h => h.elim) (fun _ _ h => h.elim) (fun _ _ h => h.elim)
      have z : ¬ e.1.2 > e.2.2 := of_decide_eq_false hz
      unfold eastL
      simp only [if_neg z]
  · rw [List.length_map, List.take_length]
    exact sd_ret v3 rfl
theorem has__law_is_odd (Y : FX K mg Z) : Has P w K mg base 2 "_law_is_odd" ["_law_shape_here", "_law_x", "_law_y"] (spD K Z.C R_is_odd) :=
  have hR : ∀ ds d, R_is_odd ds d → ds.length = 3 := fun ds d ⟨_, _, _, _, _, _, e, _⟩ => by rw [e]; rfl
  ok__law_is_odd Y (has__law_edges Y) (spD_len hR) (runP hR rfl fun ds d ⟨s, x, y, h1, h2, h3, e, e2⟩ => by
    subst e e2
    exact sd_is_odd h1 h2 h3)
/-! _law_is_within -/
def R_is_within (ds : List D) (d : D) : Prop := ∃ (a b : Pt) (x y sq : Int), PtOk a ∧ PtOk b ∧ BdP 300000 (x, y) ∧ (0 ≤ sq ∧ sq ≤ 100000000) ∧ ds = [dP a, dP b, .int x, .int y, .int sq] ∧ d = .bl (withinF a b x y sq)
theorem sd_is_within {a b : Pt} {x y sq : Int} (ha : PtOk a) (hb : PtOk b) (hc : BdP 300000 (x, y)) (hq : 0 ≤ sq ∧ sq ≤ 100000000) : SD K C (t__law_is_within K Z) [.d (dP a), .d (dP b), .d (.int x), .d (.int y), .d (.int sq), .no, .no, .no, .no, .no, .no, .no, .no] [] (fin (.bl (withinF a b x y sq))) := by
  obtain ⟨⟨c1, c2⟩, c3, c4⟩ := hc
  simp only at c1 c2 c3 c4
  obtain ⟨⟨a1, a2⟩, a3, a4⟩ := ha
  obtain ⟨⟨b1, b2⟩, b3, b4⟩ := hb
  refine sd_seq (sd_asgG (ed_tup (ad_cons (ed_op ed_int (ed_op v0 ed_int (od_ixT ix0)) (od_mul (CMul.l (by decide)))) (ad_cons (ed_op ed_int (ed_op v0 ed_int (od_ixT ix1)) (od_mul (CMul.l (by decide)))) (ad_cons (ed_op ed_int (ed_op v1 ed_int (od_ixT ix0)) (od_mul (CMul.l (by decide)))) (ad_cons (ed_op ed_int (ed_op v1 ed_int (od_ixT ix1)) (od_mul (CMul.l (by decide)))) ad_nil)))) (nle rfl))
    (gd_tup (gds_cons (gd_name w5) (gds_cons (gd_name w6) (gds_cons (gd_name w7) (gds_cons (gd_name w8) gds_nil)))) rfl) ?_)
  refine sd_seq (sd_asg (ed_cb (ad_cons (ed_op (ed_op (ed_op v2 v5 od_sub) ed_int (od_sq (by omega))) (ed_op (ed_op v3 v6 od_sub) ed_int (od_sq (by omega))) od_add) (ad_cons (ed_op (ed_op (ed_op v2 v7 od_sub) ed_int (od_sq (by omega))) (ed_op (ed_op v3 v8 od_sub) ed_int (od_sq (by omega))) od_add) ad_nil)) cd_min2) w9 ?_)
  refine sd_seq (sd_asg (ed_op (ed_op (ed_op v2 v5 od_sub) (ed_op v7 v5 od_sub) (od_mul (CMul.l (by omega)))) (ed_op (ed_op v3 v6 od_sub) (ed_op v8 v6 od_sub) (od_mul (CMul.l (by omega)))) od_add) w10 ?_)
  refine sd_seq (sd_asg (ed_op (ed_op (ed_op v2 v7 od_sub) (ed_op v5 v7 od_sub) (od_mul (CMul.l (by omega)))) (ed_op (ed_op v3 v8 od_sub) (ed_op v6 v8 od_sub) (od_mul (CMul.l (by omega)))) od_add) w11 ?_)
  have x1 : -4000 ≤ 2 * b.1 - 2 * a.1 ∧ 2 * b.1 - 2 * a.1 ≤ 4000 := by omega
  have x2 : -4000 ≤ 2 * b.2 - 2 * a.2 ∧ 2 * b.2 - 2 * a.2 ≤ 4000 := by omega
  have x3 : -302000 ≤ x - 2 * a.1 ∧ x - 2 * a.1 ≤ 302000 := by omega
  have x4 : -302000 ≤ y - 2 * a.2 ∧ y - 2 * a.2 ≤ 302000 := by omega
  have m1 := mul_bd x1 x4
  have m2 := mul_bd x2 x3
  refine sd_seq (sd_if (td_or (td_test (ed_op v10 ed_int od_le)) fun _ => td_test (ed_op v11 ed_int od_le)) (fun hz => ?_) fun hz => sd_next ?_)
  · have h : (x - 2 * a.1) * (2 * b.1 - 2 * a.1) + (y - 2 * a.2) * (2 * b.2 - 2 * a.2) ≤ 0 ∨ (x - 2 * b.1) * (2 * a.1 - 2 * b.1) + (y - 2 * b.2) * (2 * a.2 - 2 * b.2) ≤ 0 := by
      rcases Bool.or_eq_true_iff.mp hz with z | z
      · exact Or.inl (of_decide_eq_true z)
      · exact Or.inr (of_decide_eq_true z)
    refine sd_ret (ed_op v9 v4 od_le) ?_
    show D.bl _ = D.bl (withinF a b x y sq)
    exact congrArg D.bl (if_pos h).symm
  · have h : ¬ ((x - 2 * a.1) * (2 * b.1 - 2 * a.1) + (y - 2 * a.2) * (2 * b.2 - 2 * a.2) ≤ 0 ∨ (x - 2 * b.1) * (2 * a.1 - 2 * b.1) + (y - 2 * b.2) * (2 * a.2 - 2 * b.2) ≤ 0) := fun z => by
      have q : ∀ p q : Bool, (p || q) = false → p = false ∧ q = false := by decide
      obtain ⟨z1, z2⟩ := q _ _ hz
      rcases z with z | z
      · exact of_decide_eq_false z1 z
      · exact of_decide_eq_false z2 z
    refine sd_seq (sd_asg (ed_op (ed_op (ed_op v7 v5 od_sub) (ed_op v3 v6 od_sub) (od_mul (CMul.l (by omega)))) (ed_op (ed_op v8 v6 od_sub) (ed_op v2 v5 od_sub) (od_mul (CMul.l (by omega)))) od_sub) w12 ?_)
    refine sd_ret (ed_op (ed_op v12 v12 (od_mul (CMul.big (by omega)))) (ed_op v4 (ed_op (ed_op (ed_op v7 v5 od_sub) ed_int (od_sq (by omega))) (ed_op (ed_op v8 v6 od_sub) ed_int (od_sq (by omega))) od_add) (od_mul (CMul.big (by omega)))) od_le) ?_
    show D.bl _ = D.bl (withinF a b x y sq)
    exact congrArg D.bl (if_neg h).symm
theorem has__law_is_within (Y : FX K mg Z) : Has P w K mg base 1 "_law_is_within" ["_law_a", "_law_b", "_law_x", "_law_y", "_law_square"] (spD K Z.C R_is_within) :=
  have hR : ∀ ds d, R_is_within ds d → ds.length = 5 := fun ds d ⟨_, _, _, _, _, _, _, _, _, e, _⟩ => by rw [e]; rfl
  ok__law_is_within Y (spD_len hR) (runP hR rfl fun ds d ⟨a, b, x, y, sq, h1, h2, h3, h4, e, e2⟩ => by
    subst e e2
    exact sd_is_within h1 h2 h3 h4)
/-! _law_covers -/
def R__law_covers (ds : List D) (d : D) : Prop := ∃ (l : Lk) (s : Sh) (sc px py : Int), ShOk s ∧ LkOk l ∧ ScOk sc ∧ fitF l s = true ∧ ((-2048 ≤ px ∧ px ≤ 2047) ∧ -2048 ≤ py ∧ py ≤ 2047) ∧ ds = [dLk l, dSh s, .int sc, .int px, .int py] ∧ d = .bl (covF l s sc (ctrF sc px py))
theorem sd__law_covers {l : Lk} {s : Sh} {sc px py : Int} (hs : ShOk s) (hl : LkOk l) (hsc : ScOk sc) (hf : fitF l s = true) (hp : (-2048 ≤ px ∧ px ≤ 2047) ∧ -2048 ≤ py ∧ py ≤ 2047) :
    SD K C (t__law_covers K Z (spD K C R_is_odd) (spD K C R__law_edges) (spD K C R_is_within)) [.d (dLk l), .d (dSh s), .d (.int sc), .d (.int px), .d (.int py), .no, .no, .no, .no, .no] [] (fin (.bl (covF l s sc (ctrF sc px py)))) := by
  obtain ⟨u1, u2, u3⟩ := unit_at hsc
  have hc := ctr_bd hsc hp.1 hp.2
  have hq := sq_bd hl hsc
  have m1 := mul_bd (a := unitF sc) (b := 2 * px + 1) (A := 64) (B := 4096) (by omega) (by omega)
  have m2 := mul_bd (a := unitF sc) (b := 2 * py + 1) (A := 64) (B := 4096) (by omega) (by omega)
  refine sd_seq (sd_asg (ed_op (ed_frz (en_lst (ad_cons ed_int (ad_cons ed_int (ad_cons ed_int (ad_cons ed_int (ad_cons ed_int (ad_cons ed_int (ad_cons ed_int ad_nil))))))) (nle rfl))) v2 (od_ixL u1)) w5 ?_)
  refine sd_seq (sd_asg (ed_op v5 (ed_op (ed_op ed_int v3 (od_mul (CMul.l (by decide)))) ed_int od_add) (od_mul (CMul.l (by omega)))) w6 ?_)
  refine sd_seq (sd_asg (ed_op v5 (ed_op (ed_op ed_int v4 (od_mul (CMul.l (by decide)))) ed_int od_add) (od_mul (CMul.l (by omega)))) w7 ?_)
  cases l with
  | fill col =>
    refine sd_seq (sd_ifT (td_is (td_test (ed_op (ed_op v0 ed_int (od_ixT ix0)) ed_str od_eqS)) rfl) ?_)
    refine sd_ret (ed_call (ad_cons v1 (ad_cons v6 (ad_cons v7 ad_nil))) ⟨s, _, _, hs, (fun p e => by rw [e] at hf; cases hf), hc, rfl, rfl⟩) ?_
    exact congrArg D.bl (odd_eq _ _ hs)
  | stroke col z =>
    obtain ⟨_, z1, z2⟩ := hl
    have m3 := mul_bd (a := unitF sc) (b := z) (A := 64) (B := 16) (by omega) (by omega)
    refine sd_seq (sd_ifF (td_is (td_test (ed_op (ed_op v0 ed_int (od_ixT ix0)) ed_str od_eqS)) (by decide)) (sd_next ?_))
    refine sd_seq (sd_ifF (td_is (td_test (ed_op (ed_op v0 ed_int (od_ixT ix0)) ed_str od_eqS)) (by decide)) (sd_next ?_))
    have hlen : (rawE s).length ≤ 1000 := by
      have h1 := wayE_len hs
      rw [raw_ways hs, List.length_map] at h1
      exact h1
    refine sd_ret (ed_is (ed_anyF (il_lst (ed_call (ad_cons v1 ad_nil) ⟨s, hs, (fun p e => by rw [e] at hf; cases hf), rfl, rfl⟩)) (fun i => withinF (eAt (rawE s) i).1 (eAt (rawE s) i).2 (ctrF sc px py).1 (ctrF sc px py).2 (sqF (.stroke col z) sc)) (by rw [List.length_map]; exact Nat.le_trans hlen (by decide)) fun i d hd => ?_) ?_) rfl
    · obtain ⟨e, he, rfl, hm⟩ := map_get hd
      have ee := eAt_get he
      rw [ee]
      have hok := raw_ok hs e hm
      exact ⟨_, _, gd_tup (gds_cons (gd_name w8) (gds_cons (gd_name w9) gds_nil)) rfl, by simp, ed_call (ad_cons v8 (ad_cons v9 (ad_cons v6 (ad_cons v7 (ad_cons (ed_op (ed_op v5 (ed_op v0 ed_int (od_ixT ix2)) (od_mul (CMul.l (by omega)))) ed_int (od_sq (by omega))) ad_nil))))) ⟨e.1, e.2, _, _, _, hok.1, hok.2, hc, hq, rfl, rfl⟩⟩
    · rw [List.length_map, any_eAt (rawE s) fun e => withinF e.1 e.2 (ctrF sc px py).1 (ctrF sc px py).2 (sqF (.stroke col z) sc), within_any _ _ _ hs]
      rfl
  | dot col z =>
    cases s with
    | pt p =>
      obtain ⟨⟨p1, p2⟩, p3, p4⟩ := (show PtOk p from hs)
      obtain ⟨_, z1, z2⟩ := hl
      have m3 := mul_bd (a := 2 * unitF sc) (b := z) (A := 128) (B := 16) (by omega) (by omega)
      refine sd_seq (sd_ifF (td_is (td_test (ed_op (ed_op v0 ed_int (od_ixT ix0)) ed_str od_eqS)) (by decide)) (sd_next ?_))
      refine sd_seq (sd_ifT (td_is (td_test (ed_op (ed_op v0 ed_int (od_ixT ix0)) ed_str od_eqS)) rfl) ?_)
      exact sd_ret (ed_op (ed_op (ed_op (ed_op v6 (ed_op ed_int (ed_op (ed_op v1 ed_int (od_ixT ix1)) ed_int (od_ixT ix0)) (od_mul (CMul.l (by decide)))) od_sub) ed_int (od_sq (by omega))) (ed_op (ed_op v7 (ed_op ed_int (ed_op (ed_op v1 ed_int (od_ixT ix1)) ed_int (od_ixT ix1)) (od_mul (CMul.l (by decide)))) od_sub) ed_int (od_sq (by omega))) od_add)
        (ed_op (ed_op (ed_op ed_int v5 (od_mul (CMul.l (by decide)))) (ed_op v0 ed_int (od_ixT ix2)) (od_mul (CMul.l (by omega)))) ed_int (od_sq (by omega))) od_le) rfl
    | ln ps => cases hf
    | ar rs => cases hf
theorem has__law_covers (Y : FX K mg Z) : Has P w K mg base 3 "_law_covers" ["_law_look_here", "_law_shape_here", "_law_scale", "_law_px", "_law_py"] (spD K Z.C R__law_covers) :=
  have hR : ∀ ds d, R__law_covers ds d → ds.length = 5 := fun ds d ⟨_, _, _, _, _, _, _, _, _, _, e, _⟩ => by rw [e]; rfl
  ok__law_covers Y (has__law_is_odd Y) (has__law_edges Y) (has__law_is_within Y) (spD_len hR) (runP hR rfl fun ds d ⟨l, s, sc, px, py, h1, h2, h3, h4, h5, e, e2⟩ => by
    subst e e2
    exact sd__law_covers h1 h2 h3 h4 h5)
/-! _law_top -/
def R_top (ds : List D) (d : D) : Prop := ∃ (ts : List Th) (rs : List Ru) (sc px py : Int), MapOk ts ∧ StyOk rs ∧ ScOk sc ∧ ((-2048 ≤ px ∧ px ≤ 2047) ∧ -2048 ≤ py ∧ py ≤ 2047) ∧ ds = [dMap ts, dSty rs, .int sc, .int px, .int py] ∧ d = hiD rs (hiF ts rs sc (marksF ts rs sc).reverse (ctrF sc px py))
theorem hi_take {ts : List Th} {rs : List Ru} {sc : Int} {ms : List Mk3} {c : Pt} {i : Nat} {m : Mk3} (h : ms[i]? = some m) : hiF ts rs sc (ms.take (i + 1)).reverse c = (if covF (lkAt rs m.2.1) (shOf ts m.2.2) sc c = true then some m else hiF ts rs sc (ms.take i).reverse c) := by
  unfold hiF
  rw [List.take_add_one, h, Option.toList_some, List.reverse_append, List.reverse_singleton, List.singleton_append, List.find?_cons]
  split
  · rename_i z
    rw [if_pos z]
  · rename_i z
    rw [if_neg (by rw [z]; exact Bool.false_ne_true)]
theorem sd_top {ts : List Th} {rs : List Ru} {sc px py : Int} (ht : MapOk ts) (hr : StyOk rs) (hs : ScOk sc) (hp : (-2048 ≤ px ∧ px ≤ 2047) ∧ -2048 ≤ py ∧ py ≤ 2047) :
    SD K C (t__law_top K Z (spD K C R_marks_of) (spD K C R__law_covers)) [.d (dMap ts), .d (dSty rs), .d (.int sc), .d (.int px), .d (.int py), .no, .no, .no, .no, .no, .no, .no] [] (fin (hiD rs (hiF ts rs sc (marksF ts rs sc).reverse (ctrF sc px py)))) := by
  have h60 := ht.n
  have h12 := hr.n
  have kl : ∀ i, (kfR (fun i => (thAt ts i).nm) (fun i => dSh (thAt ts i).sh) i).length = i := by
    intro i
    induction i with
    | zero => rfl
    | succ i ih => rw [kfR, List.length_cons, ih]
  refine sd_seq (sd_newK ek_new fun a => ⟨_, w5, ?_⟩)
  refine sd_seq (sd_for (il_tup v0) (fun _ => [.d (dMap ts), .d (dSty rs), .d (.int sc), .d (.int px), .d (.int py), .o a, .no, .no, .no, .no, .no, .no]) (fun i => [(a, .k (kfR (fun i => (thAt ts i).nm) (fun i => dSh (thAt ts i).sh) i))]) (by repeat constructor) (List.Sublist.refl _) (fun i d hd => ?_) ?_)
  · obtain ⟨t, hg, rfl, hm⟩ := map_get hd
    have hi := (List.getElem?_eq_some_iff.mp hg).1
    refine ⟨_, _, gd_tup (gds_cons (gd_name w6) (gds_cons (gd_name w7) (gds_cons (gd_name w8) gds_nil))) rfl, sd_dput (.s (.s (.s (.s (.s .z))))) v8 v6 .z (by rw [kl]; omega) .z ⟨by repeat constructor, ?_⟩⟩
    show List.Sublist [(a, Ow.k (kfR _ _ (i + 1)))] _
    rw [kfR, thAt_get hg]
    exact List.Sublist.refl _
  rw [List.length_map]
  refine sd_seq (sd_asg (ed_tup2 ed_int ed_non) w9 ?_)
  refine sd_seq (sd_for (il_lst (ed_call (ad_cons v0 (ad_cons v1 (ad_cons v2 ad_nil))) ⟨ts, rs, sc, h60, h12, rfl, rfl⟩)) (fun i => [.d (dMap ts), .d (dSty rs), .d (.int sc), .d (.int px), .d (.int py), .o a, .no, .no, .no, .d (hiD rs (hiF ts rs sc ((marksF ts rs sc).take i).reverse (ctrF sc px py))), .no, .no])
    (fun _ => [(a, .k (kfR (fun i => (thAt ts i).nm) (fun i => dSh (thAt ts i).sh) ts.length))]) (by repeat constructor) (List.Sublist.refl _) (fun i d hd => ?_) ?_)
  · obtain ⟨m, hg, rfl, hm⟩ := map_get hd
    have mk := marks_ok m hm
    obtain ⟨q1, q2, q3⟩ := mk.shape ht
    have hrk : (rs.map dRu)[m.2.1]? = some (dRu (ruAt rs m.2.1)) := by rw [List.getElem?_map, ruAt_lt mk.at_]; rfl
    refine ⟨_, _, gd_tup (gds_cons (gd_name w10) (gds_cons (gd_name w11) (gds_cons (gd_name w6) gds_nil))) rfl, ?_⟩
    rw [hi_take hg]
    refine sd_if (td_B (ed_call (ad_cons (ed_op (ed_op v1 v11 (od_ixT (atI_of rfl hrk))) ed_int (od_ixT ix4)) (ad_cons (ed_dget (.s (.s (.s (.s (.s .z))))) v6 .z q3) (ad_cons v2 (ad_cons v3 (ad_cons v4 ad_nil))))) ⟨lkAt rs m.2.1, shOf ts m.2.2, sc, px, py, q1, mk.look hr, hs, q2, hp, rfl, rfl⟩)) (fun hz => ?_) fun hz => ?_
    · rw [if_pos hz]
      exact sd_asg (ed_tup2 (ed_lkC (ed_op (ed_op v1 v11 (od_ixT (atI_of rfl hrk))) ed_int (od_ixT ix4))) v6) w9 ⟨by repeat constructor, List.Sublist.refl _⟩
    · rw [if_neg (by rw [hz]; exact Bool.false_ne_true)]
      exact sd_next ⟨by repeat constructor, List.Sublist.refl _⟩
  · rw [List.length_map, List.take_length]
    exact sd_ret v9 rfl
theorem has__law_top (Y : FX K mg Z) : Has P w K mg base 4 "_law_top" ["_law_things", "_law_style_here", "_law_scale", "_law_px", "_law_py"] (spD K Z.C R_top) :=
  have hR : ∀ ds d, R_top ds d → ds.length = 5 := fun ds d ⟨_, _, _, _, _, _, _, _, _, e, _⟩ => by rw [e]; rfl
  ok__law_top Y (has__law_marks Y) (has__law_covers Y) (spD_len hR) (runP hR rfl fun ds d ⟨ts, rs, sc, px, py, h1, h2, h3, h5, e, e2⟩ => by
    subst e e2
    exact sd_top h1 h2 h3 h5)
end
end TA

/-! Plain laws: what the law makes is valid. -/
namespace TA
open PySem L2
/-! rings: the image of four small ones -/
def affP (x y w h : Int) (p : Pt) : Pt := (x + p.1 * w, y + p.2 * h)
def latP (k : Int) : List Pt :=
  if k = 0 then [(0, 0), (1, 0), (1, 1), (0, 1)]
  else if k = 1 then [(0, 0), (1, 0), (0, 1)]
  else if k = 2 then [(0, 0), (1, -1), (2, 0), (1, 1)]
  else [(0, 0), (2, 0), (2, 2), (1, 1), (0, 2)]
theorem ring_aff (k x y w h : Int) : ringOf k x y w h = (latP k).map (affP x y w h) := by
  have e0 : affP x y w h (0, 0) = (x, y) := by simp [affP]
  have e1 : affP x y w h (1, 0) = (x + w, y) := by simp [affP]
  have e2 : affP x y w h (1, 1) = (x + w, y + h) := by simp [affP]
  have e3 : affP x y w h (0, 1) = (x, y + h) := by simp [affP]
  have e4 : affP x y w h (1, -1) = (x + w, y - h) := by
    unfold affP
    simp only
    refine Prod.ext ?_ ?_
    · show x + 1 * w = x + w
      omega
    · show y + -1 * h = y - h
      omega
  have e5 : affP x y w h (2, 0) = (x + 2 * w, y) := by simp [affP]
  have e6 : affP x y w h (2, 2) = (x + 2 * w, y + 2 * h) := rfl
  have e7 : affP x y w h (0, 2) = (x, y + 2 * h) := by simp [affP]
  unfold ringOf latP
  split
  · simp only [List.map_cons, List.map_nil, e0, e1, e2, e3]
  · split
    · simp only [List.map_cons, List.map_nil, e0, e1, e3]
    · split
      · simp only [List.map_cons, List.map_nil, e0, e4, e5, e2]
      · simp only [List.map_cons, List.map_nil, e0, e5, e6, e2, e7]
section
variable {x y w h : Int} (hw : 0 < w) (hh : 0 < h)
include hw hh
theorem mul_lt_iff (a b : Int) : a * w < b * w ↔ a < b := by
  have := hh
  constructor
  · intro z
    rcases Int.lt_or_le a b with q | q
    · exact q
    · have := Int.mul_le_mul_of_nonneg_right q (Int.le_of_lt hw)
      omega
  · intro z
    exact Int.mul_lt_mul_of_pos_right z hw
theorem aff_lt (p q : Pt) : ltP (affP x y w h p) (affP x y w h q) = ltP p q := by
  rw [Bool.eq_iff_iff, ltP_iff, ltP_iff]
  unfold affP
  simp only
  have a := mul_lt_iff hw hh p.1 q.1
  have a' := mul_lt_iff hw hh q.1 p.1
  have b := mul_lt_iff hh hw p.2 q.2
  constructor
  · rintro (z | ⟨z1, z2⟩)
    · exact .inl (a.mp (by omega))
    · refine .inr ⟨?_, b.mp (by omega)⟩
      rcases Int.lt_trichotomy p.1 q.1 with c | c | c
      · have := a.mpr c
        omega
      · exact c
      · have := a'.mpr c
        omega
  · rintro (z | ⟨z1, z2⟩)
    · have := a.mpr z
      exact .inl (by omega)
    · have := b.mpr z2
      exact .inr ⟨by rw [z1], by omega⟩
def aff2 (x y w h : Int) (e : Pt × Pt) : Pt × Pt := (affP x y w h e.1, affP x y w h e.2)
theorem aff_edge (p q : Pt) : edgeF (affP x y w h p) (affP x y w h q) = aff2 x y w h (edgeF p q) := by
  unfold edgeF
  rw [aff_lt hw hh]
  split <;> rfl
theorem aff_turn (a b c : Pt) : turnF (affP x y w h a) (affP x y w h b) (affP x y w h c) = (w * h) * turnF a b c := by
  unfold turnF affP
  simp only
  have e : ∀ p q k m : Int, m + p * k - (m + q * k) = (p - q) * k := fun p q k m => by
    rw [Int.sub_mul]
    omega
  rw [e, e, e, e, Int.mul_sub]
  have f1 : (b.1 - a.1) * w * ((c.2 - a.2) * h) = w * h * ((b.1 - a.1) * (c.2 - a.2)) := by ac_rfl
  have f2 : (b.2 - a.2) * h * ((c.1 - a.1) * w) = w * h * ((b.2 - a.2) * (c.1 - a.1)) := by ac_rfl
  rw [f1, f2]
theorem sgn_pos (t : Int) : (0 < w * h * t ↔ 0 < t) ∧ (w * h * t < 0 ↔ t < 0) ∧ (w * h * t = 0 ↔ t = 0) := by
  have k : 0 < w * h := Int.mul_pos hw hh
  rcases Int.lt_trichotomy t 0 with c | c | c
  · have := Int.mul_neg_of_pos_of_neg k c
    omega
  · subst c
    simp
  · have := Int.mul_pos k c
    omega
theorem aff_bes (a b : Int) : besF (w * h * a) (w * h * b) = besF a b := by
  obtain ⟨a1, a2, _⟩ := sgn_pos hw hh a
  obtain ⟨b1, b2, _⟩ := sgn_pos hw hh b
  unfold besF
  simp only [a1, a2, b1, b2]
theorem aff_meet (e f : Pt × Pt) : meetF (aff2 x y w h e) (aff2 x y w h f) = meetF e f := by
  unfold meetF aff2
  simp only [aff_turn hw hh, aff_bes hw hh]
  have z : ∀ t, (w * h * t = 0) = (t = 0) := fun t => propext (sgn_pos hw hh t).2.2
  simp only [z]
theorem aff_at {l : List Pt} {i : Nat} (hi : i < l.length) : atP (l.map (affP x y w h)) i = affP x y w h (atP l i) := by
  have a := atP_eq (ps := l.map (affP x y w h)) (i := i) (by rw [List.length_map]; exact hi)
  rw [List.getElem?_map, atP_eq hi] at a
  exact (Option.some.inj a).symm
theorem aff_inj {p q : Pt} (e : affP x y w h p = affP x y w h q) : p = q := by
  have h1 : ltP p q = false := by
    rw [← aff_lt (x := x) (y := y) hw hh, e]
    cases z : ltP (affP x y w h q) (affP x y w h q) with
    | false => rfl
    | true =>
      have := ltP_iff.mp z
      omega
  have h2 : ltP q p = false := by
    rw [← aff_lt (x := x) (y := y) hw hh, e]
    cases z : ltP (affP x y w h q) (affP x y w h q) with
    | false => rfl
    | true =>
      have := ltP_iff.mp z
      omega
  have k1 : ¬ (p.1 < q.1 ∨ (p.1 = q.1 ∧ p.2 < q.2)) := fun z => by
    rw [ltP_iff.mpr z] at h1
    cases h1
  have k2 : ¬ (q.1 < p.1 ∨ (q.1 = p.1 ∧ q.2 < p.2)) := fun z => by
    rw [ltP_iff.mpr z] at h2
    cases h2
  refine Prod.ext ?_ ?_ <;> omega
theorem aff_edges {l : List Pt} (h1 : 1 ≤ l.length) : edgesF (l.map (affP x y w h)) = (edgesF l).map (aff2 x y w h) := by
  unfold edgesF
  rw [List.length_map, List.map_append, List.map_map, List.map_singleton, aff_at hw hh (by omega), aff_at hw hh (by omega), aff_edge hw hh]
  congr 1
  apply List.map_congr_left
  intro i hi
  have := List.mem_range.mp hi
  rw [aff_at hw hh (by omega), aff_at hw hh (by omega), aff_edge hw hh]
  rfl
theorem simple_intro {ps : List Pt} (k : ∀ i, i < ps.length → atP ps i ≠ atP ps ((i + ps.length - 1) % ps.length) ∧ ∀ j, j < i → ∃ e f, (edgesF ps)[i]? = some e ∧ (edgesF ps)[j]? = some f ∧ meetF e f = some (decide (i - j = 1 ∨ i - j = ps.length - 1))) : simpleB ps = true := by
  unfold simpleB
  refine List.all_eq_true.mpr fun i hi => ?_
  obtain ⟨a, b⟩ := k i (List.mem_range.mp hi)
  refine Bool.and_eq_true_iff.mpr ⟨decide_eq_true a, List.all_eq_true.mpr fun j hj => ?_⟩
  obtain ⟨e, f, he, hf, hm⟩ := b j (List.mem_range.mp hj)
  rw [he, hf]
  exact decide_eq_true hm
theorem aff_simple {l : List Pt} (h1 : 1 ≤ l.length) (hs : simpleB l = true) : simpleB (l.map (affP x y w h)) = true := by
  refine simple_intro hw hh fun i hi => ?_
  rw [List.length_map] at hi
  obtain ⟨a, b⟩ := simple_at hs hi
  have hk : (i + l.length - 1) % l.length < l.length := Nat.mod_lt _ (by omega)
  rw [List.length_map]
  refine ⟨?_, fun j hj => ?_⟩
  · rw [aff_at hw hh hi, aff_at hw hh hk]
    exact fun z => a (aff_inj hw hh z)
  · obtain ⟨e, f, he, hf, hm⟩ := b j hj
    refine ⟨aff2 x y w h e, aff2 x y w h f, ?_, ?_, ?_⟩
    · rw [aff_edges hw hh h1, List.getElem?_map, he]
      rfl
    · rw [aff_edges hw hh h1, List.getElem?_map, hf]
      rfl
    · rw [aff_meet hw hh, hm]
end
theorem size3 (a b c : Pt) : sizeF [a, b, c] = 0 + c.1 * a.2 - c.2 * a.1 + a.1 * b.2 - a.2 * b.1 + b.1 * c.2 - b.2 * c.1 := by
  have q : ∀ z : Int → Nat → Int, (List.range 3).foldl z 0 = z (z (z 0 0) 1) 2 := fun _ => rfl
  unfold sizeF
  rw [show ([a, b, c] : List Pt).length = 3 from rfl, q]
  rfl
theorem size4 (a b c d : Pt) : sizeF [a, b, c, d] = 0 + d.1 * a.2 - d.2 * a.1 + a.1 * b.2 - a.2 * b.1 + b.1 * c.2 - b.2 * c.1 + c.1 * d.2 - c.2 * d.1 := by
  have q : ∀ z : Int → Nat → Int, (List.range 4).foldl z 0 = z (z (z (z 0 0) 1) 2) 3 := fun _ => rfl
  unfold sizeF
  rw [show ([a, b, c, d] : List Pt).length = 4 from rfl, q]
  rfl
theorem size5 (a b c d e : Pt) : sizeF [a, b, c, d, e] = 0 + e.1 * a.2 - e.2 * a.1 + a.1 * b.2 - a.2 * b.1 + b.1 * c.2 - b.2 * c.1 + c.1 * d.2 - c.2 * d.1 + d.1 * e.2 - d.2 * e.1 := by
  have q : ∀ z : Int → Nat → Int, (List.range 5).foldl z 0 = z (z (z (z (z 0 0) 1) 2) 3) 4 := fun _ => rfl
  unfold sizeF
  rw [show ([a, b, c, d, e] : List Pt).length = 5 from rfl, q]
  rfl
theorem ring_big (k x y w h : Int) (hw : 0 < w) (hh : 0 < h) : 0 < sizeF (ringOf k x y w h) := by
  have k0 : 0 < w * h := Int.mul_pos hw hh
  have c1 := Int.mul_comm x y
  have c2 := Int.mul_comm w y
  have c3 := Int.mul_comm h x
  have c4 := Int.mul_comm w h
  have tw : 2 * w = w + w := by omega
  have th : 2 * h = h + h := by omega
  unfold ringOf
  rw [tw, th]
  split
  · rw [size4]
    simp only [Int.add_mul, Int.mul_add, Int.sub_mul, Int.mul_sub]
    omega
  · split
    · rw [size3]
      simp only [Int.add_mul, Int.mul_add, Int.sub_mul, Int.mul_sub]
      omega
    · split
      · rw [size4]
        simp only [Int.add_mul, Int.mul_add, Int.sub_mul, Int.mul_sub]
        omega
      · rw [size5]
        simp only [Int.add_mul, Int.mul_add, Int.sub_mul, Int.mul_sub]
        omega
theorem lat_simple (k : Int) : simpleB (latP k) = true := by
  unfold latP
  split
  · decide +kernel
  · split
    · decide +kernel
    · split
      · decide +kernel
      · decide +kernel
theorem lat_len (k : Int) : 3 ≤ (latP k).length ∧ (latP k).length ≤ 5 := by
  unfold latP
  split
  · decide
  · split
    · decide
    · split <;> decide
theorem lat_low (k : Int) : ∀ i, 0 < i → i < (latP k).length → ltP (atP (latP k) 0) (atP (latP k) i) = true := by
  have key : ∀ l : List Pt, ((List.range l.length).all fun i => decide (i = 0) || ltP (atP l 0) (atP l i)) = true → ∀ i, 0 < i → i < l.length → ltP (atP l 0) (atP l i) = true := fun l h i h0 hi => by
    have := List.all_eq_true.mp h i (List.mem_range.mpr hi)
    rcases Bool.or_eq_true_iff.mp this with z | z
    · have := of_decide_eq_true z
      omega
    · exact z
  unfold latP
  split
  · exact key _ (by decide +kernel)
  · split
    · exact key _ (by decide +kernel)
    · split
      · exact key _ (by decide +kernel)
      · exact key _ (by decide +kernel)
theorem lat_bd (k : Int) : ∀ p ∈ latP k, (0 ≤ p.1 ∧ p.1 ≤ 2) ∧ -1 ≤ p.2 ∧ p.2 ≤ 2 := by
  unfold latP
  split
  · decide
  · split
    · decide
    · split <;> decide
theorem ring_ok {k x y w h : Int} (hx : -40 ≤ x ∧ x ≤ 40) (hy : -40 ≤ y ∧ y ≤ 40) (hw : 1 ≤ w ∧ w ≤ 40) (hh : 1 ≤ h ∧ h ≤ 40) : RingOk (ringOf k x y w h) := by
  have w0 : 0 < w := by omega
  have h0 : 0 < h := by omega
  obtain ⟨l3, l5⟩ := lat_len k
  have hb := ring_big k x y w h w0 h0
  rw [ring_aff] at hb ⊢
  refine ⟨by rw [List.length_map]; exact l3, by rw [List.length_map]; omega, fun p hp => ?_, aff_simple w0 h0 (by omega) (lat_simple k), hb, fun i h1 h2 => ?_⟩
  · obtain ⟨q, hq, rfl⟩ := List.mem_map.mp hp
    obtain ⟨⟨q1, q2⟩, q3, q4⟩ := lat_bd k q hq
    have m1 := mul_bd (a := q.1) (b := w) (A := 2) (B := 40) (by omega) (by omega)
    have m2 := mul_bd (a := q.2) (b := h) (A := 2) (B := 40) (by omega) (by omega)
    unfold affP PtOk
    simp only
    omega
  · rw [List.length_map] at h2
    rw [aff_at w0 h0 (by omega), aff_at w0 h0 h2, aff_lt w0 h0]
    exact lat_low k i h1 h2
theorem ringF_ok (s : StS) : RingOk (ringF s 40).1 := by
  have a := coord_rng s (m := 40) (by decide)
  have b := coord_rng (rg1 s 40).2 (m := 40) (by decide)
  have c := next_rng (rg2 s 40).2 (m := 40) (by decide)
  have d := next_rng (rg3 s 40).2 (m := 40) (by decide)
  have a' : -40 ≤ (rg1 s 40).1 ∧ (rg1 s 40).1 ≤ 40 := a
  have b' : -40 ≤ (rg2 s 40).1 ∧ (rg2 s 40).1 ≤ 40 := b
  have c' : 0 ≤ (rg3 s 40).1 ∧ (rg3 s 40).1 < 40 := c
  have d' : 0 ≤ (rg4 s 40).1 ∧ (rg4 s 40).1 < 40 := d
  exact ring_ok a' b' (by omega) (by omega)
end TA

/-! Plain laws, 2: map, style, sheets, joins. -/
namespace TA
open PySem L2
/-! lines -/
structure LnOk (ps : List Pt) : Prop where
  bd : ∀ p ∈ ps, (-40 ≤ p.1 ∧ p.1 ≤ 41) ∧ -40 ≤ p.2 ∧ p.2 ≤ 40
  st : ∀ i, i + 1 < ps.length → atP ps i ≠ atP ps (i + 1)
theorem atP_app {ps : List Pt} {q : Pt} {i : Nat} (h : i < ps.length) : atP (ps ++ [q]) i = atP ps i := by
  have a := atP_eq (ps := ps ++ [q]) (i := i) (by rw [List.length_append]; omega)
  rw [List.getElem?_append_left h, atP_eq h] at a
  exact (Option.some.inj a).symm
theorem atP_end {ps : List Pt} {q : Pt} : atP (ps ++ [q]) ps.length = q := by
  have a := atP_eq (ps := ps ++ [q]) (i := ps.length) (by rw [List.length_append]; exact Nat.lt_succ_self _)
  rw [List.getElem?_append_right (Nat.le_refl _), Nat.sub_self] at a
  exact (Option.some.inj a).symm
theorem off_ne (p q : Pt) : offP p q ≠ q := by
  unfold offP
  split
  · rename_i e
    intro z
    have := congrArg Prod.fst z
    rw [e] at this
    simp only at this
    omega
  · rename_i e
    exact e
theorem LnOk.add {ps : List Pt} (h : LnOk ps) (h1 : 1 ≤ ps.length) {p : Pt} (hp : (-40 ≤ p.1 ∧ p.1 ≤ 40) ∧ -40 ≤ p.2 ∧ p.2 ≤ 40) : LnOk (ps ++ [offP p (lastP ps)]) := by
  refine ⟨fun r hr => ?_, fun i hi => ?_⟩
  · rcases List.mem_append.mp hr with z | z
    · exact h.bd r z
    · rw [List.mem_singleton.mp z]
      unfold offP
      split
      · simp only
        omega
      · omega
  · rw [List.length_append, List.length_singleton] at hi
    by_cases h2 : i + 1 < ps.length
    · rw [atP_app (by omega), atP_app h2]
      exact h.st i h2
    · have e : i + 1 = ps.length := by omega
      rw [atP_app (by omega), e, atP_end]
      have e2 : lastP ps = atP ps i := by
        unfold lastP atP
        rw [show ps.length - 1 = i by omega]
      rw [e2]
      exact (off_ne _ _).symm
theorem ptS_bd (s : StS) : (-40 ≤ (ptS s 40).1.1 ∧ (ptS s 40).1.1 ≤ 40) ∧ -40 ≤ (ptS s 40).1.2 ∧ (ptS s 40).1.2 ≤ 40 := by
  have a := coord_rng s (m := 40) (by decide)
  have b := coord_rng (coordF s 40).2 (m := 40) (by decide)
  exact ⟨a, b⟩
theorem lnS_ok (s : StS) {p : Pt} (hp : (-40 ≤ p.1 ∧ p.1 ≤ 40) ∧ -40 ≤ p.2 ∧ p.2 ≤ 40) : ∀ i, LnOk (lnS s [p] 40 i).2
  | 0 => ⟨fun q hq => by
      rw [List.mem_singleton.mp hq]
      omega, fun i hi => by
      have : i + 1 < 1 := hi
      omega⟩
  | i + 1 => (lnS_ok s hp i).add (by rw [lnS_len]; exact Nat.le_add_right _ _) (ptS_bd _)
theorem shape_ok (s : StS) : ShOk (shapeF s 40).1 := by
  have b1 := next_rng (ptS (nextF s 4).2 40).2 (m := 4) (by decide)
  have b2 := next_rng (nextF s 4).2 (m := 2) (by decide)
  unfold shapeF
  simp only
  split
  · have a := ptS_bd (nextF s 4).2
    show PtOk _
    unfold PtOk
    omega
  · split
    · have a := lnS_ok (nextF (ptS (nextF s 4).2 40).2 4).2 (ptS_bd (nextF s 4).2) (1 + (nextF (ptS (nextF s 4).2 40).2 4).1).toNat
      have l := lnS_len (nextF (ptS (nextF s 4).2 40).2 4).2 [(ptS (nextF s 4).2 40).1] 40 (1 + (nextF (ptS (nextF s 4).2 40).2 4).1).toNat
      rw [List.length_singleton] at l
      refine (⟨?_, ?_, fun p hp => ?_, a.st⟩ : LineOk _)
      · rw [l]
        omega
      · rw [l]
        omega
      · have := a.bd p hp
        unfold PtOk
        omega
    · refine ⟨?_, ?_, fun r hr => ?_⟩
      · rw [List.length_map, List.length_range]
        omega
      · rw [List.length_map, List.length_range]
        omega
      · obtain ⟨i, _, rfl⟩ := List.mem_map.mp hr
        exact ringF_ok _
/-! the map -/
def nameB (s : Str) : Bool := decide (1 ≤ s.length) && (decide (s.length ≤ 12) && ((match s.cps.toList[0]? with
  | some c => decide (c ∈ lettersL.cps.toList)
  | none => false) && s.cps.toList.all fun c => decide (c ∈ lettersL.cps.toList) || decide (c ∈ digitsL.cps.toList)))
theorem name_of {s : Str} (h : nameB s = true) : NameOk s := by
  unfold nameB at h
  obtain ⟨h1, h⟩ := Bool.and_eq_true_iff.mp h
  obtain ⟨h2, h⟩ := Bool.and_eq_true_iff.mp h
  obtain ⟨h3, h4⟩ := Bool.and_eq_true_iff.mp h
  refine ⟨of_decide_eq_true h1, of_decide_eq_true h2, ?_, fun c hc => ?_⟩
  · split at h3
    · rename_i c e
      exact ⟨c, e, of_decide_eq_true h3⟩
    · cases h3
  · have := List.all_eq_true.mp h4 c hc
    rcases Bool.or_eq_true_iff.mp this with z | z
    · exact .inl (of_decide_eq_true z)
    · exact .inr (of_decide_eq_true z)
theorem name_i : ∀ i, i < 4 → nameB (nameF i) = true := by decide +kernel
theorem name_lt : ∀ i, i < 3 → (decide ((nameF i).cps.toList < (nameF (i + 1)).cps.toList)) = true := by decide +kernel
theorem name_ne : ∀ i, i < 4 → ∀ j, j < 4 → (decide (nameF i = nameF j → i = j)) = true := by decide +kernel
theorem kind_ok (r : Int) : NameOk (kindF r) := by
  unfold kindF
  split
  · exact name_of (by decide +kernel)
  · split
    · exact name_of (by decide +kernel)
    · exact name_of (by decide +kernel)
theorem mpS_get (s : StS) (m : Int) : ∀ n i, i < n → (mpS s m n).2[i]? = some (thF (mpS s m i).1 m i)
  | 0, _, h => absurd h (Nat.not_lt_zero _)
  | n + 1, i, h => by
    rw [mpS]
    by_cases hi : i < n
    · rw [List.getElem?_append_left (by rw [mpS_len]; exact hi)]
      exact mpS_get s m n i hi
    · have e : i = n := by omega
      rw [List.getElem?_append_right (by rw [mpS_len]; omega), mpS_len, e, Nat.sub_self]
      rfl
theorem map_ok (s : StS) : MapOk (mapF s 40).1 := by
  have hn := next_rng s (m := 5) (by decide)
  unfold mapF
  simp only
  have hl := mpS_len (nextF s 5).2 40 (nextF s 5).1.toNat
  have hg := mpS_get (nextF s 5).2 40 (nextF s 5).1.toNat
  have hN : (nextF s 5).1.toNat ≤ 4 := by omega
  generalize (nextF s 5).1.toNat = n at *
  generalize hM : (mpS (nextF s 5).2 40 n).2 = M at *
  have at_ : ∀ i t, M[i]? = some t → i < n ∧ t = thF (mpS (nextF s 5).2 40 i).1 40 i := fun i t ht => by
    have hi := (List.getElem?_eq_some_iff.mp ht).1
    rw [hl] at hi
    rw [hg i hi] at ht
    exact ⟨hi, (Option.some.inj ht).symm⟩
  refine ⟨by omega, fun t ht => ?_, ?_, fun i a b ha hb => ?_⟩
  · obtain ⟨i, hi⟩ := List.mem_iff_getElem?.mp ht
    obtain ⟨h1, rfl⟩ := at_ i t hi
    exact ⟨name_of (name_i i (by omega)), kind_ok _, shape_ok _⟩
  · have e : M.map Th.nm = (List.range n).map nameF := by
      apply List.ext_getElem?
      intro i
      by_cases hi : i < n
      · rw [List.getElem?_map, hg i hi, List.getElem?_map, List.getElem?_range hi]
        rfl
      · rw [List.getElem?_eq_none (by rw [List.length_map]; omega), List.getElem?_eq_none (by rw [List.length_map, List.length_range]; omega)]
    rw [e]
    have : n = 0 ∨ n = 1 ∨ n = 2 ∨ n = 3 ∨ n = 4 := by omega
    rcases this with rfl | rfl | rfl | rfl | rfl <;> decide +kernel
  · obtain ⟨h1, rfl⟩ := at_ i a ha
    obtain ⟨h2, rfl⟩ := at_ (i + 1) b hb
    exact of_decide_eq_true (name_lt i (by omega))
/-! the style -/
theorem look_ok (s : StS) : LkOk (lookF s).1 := by
  have h2 := next_rng (lk1 s).2 (m := 63) (by decide)
  have h3 := next_rng (lk2 s).2 (m := 2) (by decide)
  have h2' : 0 ≤ (lk2 s).1 ∧ (lk2 s).1 < 63 := h2
  have hm : 0 < mostF (lk3 s).1 ∧ mostF (lk3 s).1 ≤ 16 := by
    unfold mostF
    split <;> decide
  have h4 := next_rng (lk3 s).2 (m := mostF (lk3 s).1) hm.1
  have h4' : 0 ≤ (lk4 s).1 ∧ (lk4 s).1 < mostF (lk3 s).1 := h4
  unfold lookF
  split
  · exact ⟨by omega, by omega⟩
  · split
    · exact ⟨⟨by omega, by omega⟩, by omega, by omega⟩
    · exact ⟨⟨by omega, by omega⟩, by omega, by omega⟩
theorem ru_ok (s : StS) : RuOk (ruF s).1 := by
  have h1 := next_rng s (m := 4) (by decide)
  have h3 := next_rng (ru2 s).2 (m := 5) (by decide)
  have h4 := next_rng (ru3 s).2 (m := 7) (by decide)
  have h1' : 0 ≤ (ru1 s).1 ∧ (ru1 s).1 < 4 := h1
  have h3' : 0 ≤ (ru3 s).1 ∧ (ru3 s).1 < 5 := h3
  have h4' : 0 ≤ (ru4 s).1 ∧ (ru4 s).1 < 7 := h4
  refine ⟨?_, h1'.1, ?_, ?_, ?_, look_ok _⟩
  · show kind5 _ = "" ∨ NameOk (kind5 _)
    unfold kind5
    split
    · exact .inl rfl
    · split
      · exact .inl rfl
      · split
        · exact .inr (name_of (by decide +kernel))
        · split
          · exact .inr (name_of (by decide +kernel))
          · exact .inr (name_of (by decide +kernel))
  · show (ru1 s).1 ≤ min2 6 ((ru1 s).1 + (ru4 s).1)
    unfold min2
    split <;> omega
  · show min2 6 ((ru1 s).1 + (ru4 s).1) ≤ 6
    unfold min2
    split <;> omega
  · show -8 ≤ (ru3 s).1 - 2 ∧ (ru3 s).1 - 2 ≤ 8
    omega
theorem syS_ok (s : StS) : ∀ i, ∀ r ∈ (syS s i).2, RuOk r
  | 0, r, hr => by cases hr
  | i + 1, r, hr => by
    rw [syS] at hr
    rcases List.mem_append.mp hr with z | z
    · exact syS_ok s i r z
    · rw [List.mem_singleton.mp z]
      exact ru_ok _
theorem sty_ok (s : StS) (l : Int) : StyOk ((styF s l).1.take 3) :=
  ⟨by rw [List.length_take]; omega, fun r hr => syS_ok _ _ r (List.mem_of_mem_take hr)⟩
/-! sheets -/
theorem col_bd {l : Lk} (h : LkOk l) : 1 ≤ colF l ∧ colF l ≤ 63 := by
  cases l with
  | fill c => exact h
  | stroke c s => exact h.1
  | dot c s => exact h.1
theorem pix_bd {ts : List Th} {rs : List Ru} (hr : StyOk rs) (sc px py : Int) : 0 ≤ pixF ts rs sc px py ∧ pixF ts rs sc px py ≤ 63 := by
  unfold pixF
  split
  · rename_i m e
    have hm := List.mem_reverse.mp (List.mem_of_find?_eq_some e)
    have := col_bd ((marks_ok m hm).look hr)
    omega
  · decide
theorem sheet_ok {ts : List Th} {rs : List Ru} (hr : StyOk rs) (sc left low : Int) : SheetOk (picF ts rs sc left low 16 16) := by
  refine ⟨by unfold picF; simp, fun r hm => ?_⟩
  unfold picF at hm
  obtain ⟨i, _, rfl⟩ := List.mem_map.mp hm
  refine ⟨by simp, fun x hx => ?_⟩
  obtain ⟨j, _, rfl⟩ := List.mem_map.mp hx
  exact pix_bd hr sc _ _
theorem pic_row {ts : List Th} {rs : List Ru} {sc left low : Int} {w h i : Nat} (hi : i < h) : rowAt (picF ts rs sc left low w h) i = (List.range w).map fun j => pixF ts rs sc (left + (j : Nat)) (low + (h : Nat) - 1 - (i : Nat)) := by
  unfold rowAt picF
  rw [List.getD_eq_getElem?_getD, List.getElem?_map, List.getElem?_range hi]
  rfl
theorem join_right (ts : List Th) (rs : List Ru) (sc c r : Int) : joinF [[picF ts rs sc (16 * c) (16 * r) 16 16, picF ts rs sc (16 * (c + 1)) (16 * r) 16 16]] = picF ts rs sc (16 * c) (16 * r) 32 16 := by
  unfold joinF
  rw [List.flatMap_cons, List.flatMap_nil, List.append_nil]
  show _ = (List.range 16).map _
  apply List.map_congr_left
  intro i hi
  have hi := List.mem_range.mp hi
  unfold joinRow
  rw [List.flatMap_cons, List.flatMap_cons, List.flatMap_nil, List.append_nil, pic_row hi, pic_row hi]
  show _ = (List.range (16 + 16)).map _
  rw [List.range_add, List.map_append, List.map_map]
  congr 1
  apply List.map_congr_left
  intro j _
  show pixF ts rs sc (16 * (c + 1) + (j : Nat)) _ = pixF ts rs sc (16 * c + ((16 + j : Nat) : Int)) _
  congr 1
  omega
theorem join_above (ts : List Th) (rs : List Ru) (sc c r : Int) : joinF [[picF ts rs sc (16 * c) (16 * (r + 1)) 16 16], [picF ts rs sc (16 * c) (16 * r) 16 16]] = picF ts rs sc (16 * c) (16 * r) 16 32 := by
  have one : ∀ a : List (List Int), (List.range 16).map (joinRow [a]) = (List.range 16).map (rowAt a) := fun a => by
    apply List.map_congr_left
    intro i _
    unfold joinRow
    rw [List.flatMap_cons, List.flatMap_nil, List.append_nil]
  unfold joinF
  rw [List.flatMap_cons, List.flatMap_cons, List.flatMap_nil, List.append_nil, one, one]
  show _ = (List.range (16 + 16)).map _
  rw [List.range_add, List.map_append, List.map_map]
  congr 1
  · apply List.map_congr_left
    intro i hi
    rw [pic_row (List.mem_range.mp hi)]
    apply List.map_congr_left
    intro j _
    congr 1
    show 16 * (r + 1) + ((16 : Nat) : Int) - 1 - (i : Nat) = 16 * r + ((32 : Nat) : Int) - 1 - (i : Nat)
    omega
  · apply List.map_congr_left
    intro i hi
    rw [pic_row (List.mem_range.mp hi)]
    show (List.range 16).map _ = (List.range 16).map fun j : Nat => pixF ts rs sc (16 * c + (j : Nat)) (16 * r + ((32 : Nat) : Int) - 1 - ((16 + i : Nat) : Int))
    apply List.map_congr_left
    intro j _
    congr 1
    show 16 * r + ((16 : Nat) : Int) - 1 - (i : Nat) = 16 * r + ((32 : Nat) : Int) - 1 - ((16 + i : Nat) : Int)
    omega
/-! pictures compared -/
theorem pic_pl (a : List (List Int)) : (dPic a).pl = true := by
  unfold dPic D.pl
  rw [D.pls_all, List.all_eq_true]
  intro d hd
  obtain ⟨r, _, rfl⟩ := List.mem_map.mp hd
  unfold D.pl
  rw [D.pls_all, List.all_eq_true]
  intro d hd
  obtain ⟨x, _, rfl⟩ := List.mem_map.mp hd
  unfold D.pl
  rfl
theorem ints_lay : ∀ r : List Int, PyData.canLayAll0 (D.pys (r.map D.int)) = true ∧ PyData.depthAll (D.pys (r.map D.int)) = 0
  | [] => by
    rw [List.map_nil, D.pys]
    exact ⟨by rw [PyData.canLayAll0], by rw [PyData.depthAll]⟩
  | x :: r => by
    obtain ⟨h1, h2⟩ := ints_lay r
    rw [List.map_cons, D.pys, D.py]
    refine ⟨by rw [PyData.canLayAll0, PyData.canLay0, h1]; rfl, by rw [PyData.depthAll, PyData.depth, h2]; rfl⟩
theorem rows_lay : ∀ a : List (List Int), PyData.canLayAll0 (D.pys (a.map dRow)) = true ∧ PyData.depthAll (D.pys (a.map dRow)) ≤ 1
  | [] => by
    rw [List.map_nil, D.pys]
    exact ⟨by rw [PyData.canLayAll0], by rw [PyData.depthAll]; exact Nat.zero_le _⟩
  | r :: a => by
    obtain ⟨h1, h2⟩ := rows_lay a
    obtain ⟨k1, k2⟩ := ints_lay r
    rw [List.map_cons, D.pys, show (dRow r).py = .tuple (D.pys (r.map D.int)) by unfold dRow; rw [D.py]]
    refine ⟨by rw [PyData.canLayAll0, PyData.canLay0, h1, k1]; rfl, ?_⟩
    rw [PyData.depthAll, PyData.depth, k2]
    omega
theorem pic_shaped (a : List (List Int)) : SeqAt.shaped (dPic a).py = true ∧ (dPic a).py.canLay0 = true := by
  obtain ⟨h1, h2⟩ := rows_lay a
  have e : (dPic a).py = .tuple (D.pys (a.map dRow)) := by rw [dPic_eq, D.py]
  rw [e]
  have c : (PyData.tuple (D.pys (a.map dRow))).canLay0 = true := by rw [PyData.canLay0, h1]
  refine ⟨?_, c⟩
  unfold SeqAt.shaped
  rw [c, Bool.true_and, decide_eq_true_eq, PyData.depth]
  omega
theorem pic_eqv (a : List (List Int)) : PyData.eqv (dPic a).py (dPic a).py = true := PySem.SeqAt.eqv_refl _ (pic_shaped a).2
end TA

/-! The law's defs, 5: the law. -/
namespace TA
open PySem L2
section
variable {P : Program} {w : World} {K : PySem.W.Frag} {mg : Str → Option Value} {base : Heap} {Z : Cst} {C : Addr} {de : List Sl} {om om' : Om}
def spStream (K : PySem.W.Frag) : Sp := fun vs H Q _ => ∃ (a : Addr) (ns : List Int), vs = [.ref a] ∧ SqL K H a (ns.map V.int) ∧
  ∀ l p : Addr, H l = none → upd H l (.lst (ns.map V.int)) p = none → Q (.ref p) (upd (upd H l (.lst (ns.map V.int))) p (.lst [.ref l, .int 0, .int 0]))
theorem has__law_stream (Y : FX K mg Z) : Has P w K mg base 1 "_law_stream" ["_law_script"] (spStream K) :=
  ok__law_stream Y (fun vs H Q E ⟨a, ns, e, _⟩ => by rw [e]; rfl) fun vs H Q E ⟨a, ns, e, hS, q⟩ => by
    subst e
    exact ⟨.ref a, rfl, a, ns.map V.int, rfl, .inl hS, fun l hl => ⟨sz_le (nle rfl), fun p hp => q l p hl hp⟩⟩
def lpS (s : StS) : Nat → StS
  | 0 => s
  | i + 1 => (nextF (nextF (lpS s i) 16).2 16).2
theorem ed_pix {ts : List Th} {rs : List Ru} {sc c r u q : Int} {te ta tb : TE} (h : ED K C te de om (dPic (picF ts rs sc (16 * c) (16 * r) 16 16)) om) (ha : ED K C ta de om (.int q) om) (hb : ED K C tb de om (.int u) om) (hq : 0 ≤ q ∧ q < 16) (hu : 0 ≤ u ∧ u < 16) :
    ED K C (tOp (rIxT K) (tOp (rIxT K) te (tOp rSu (tC (.int 15)) ta)) tb) de om (.int (pixF ts rs sc (16 * c + u) (16 * r + q))) om := by
  have hj : (15 - q).toNat < 16 := by omega
  have hl : (picF ts rs sc (16 * c) (16 * r) 16 16).length = 16 := by unfold picF; simp
  have h1 := rowAt_get (a := picF ts rs sc (16 * c) (16 * r) 16 16) (i := (15 - q).toNat) (by rw [hl]; exact hj)
  have e1 : (rowAt (picF ts rs sc (16 * c) (16 * r) 16 16) (15 - q).toNat)[u.toNat]? = some (pixF ts rs sc (16 * c + u) (16 * r + q)) := by
    rw [pic_row hj, List.getElem?_map, List.getElem?_range (by omega)]
    show some (pixF ts rs sc (16 * c + (u.toNat : Int)) (16 * r + ((16 : Nat) : Int) - 1 - ((15 - q).toNat : Int))) = _
    congr 2
    · omega
    · omega
  refine ed_op (ed_op h (ed_op ed_int ha od_sub) (od_ixT (atI_of (j := (15 - q).toNat) (by omega) h1))) hb (od_ixT (atI_of (j := u.toNat) (by omega) ?_))
  rw [List.getElem?_map, e1]
  rfl
theorem ed_hi {te : TE} {ts : List Th} {rs : List Ru} {sc px py : Int} (h : ED K C te de om (hiD rs (hiF ts rs sc (marksF ts rs sc).reverse (ctrF sc px py))) om) : ED K C (tOp (rIxT K) te (tC (.int 0))) de om (.int (pixF ts rs sc px py)) om := by
  obtain ⟨x, e⟩ := hi_pix ts rs sc px py
  rw [e] at h
  exact ed_op h ed_int (od_ixT ix0)
theorem sheets1 {a b : List (List Int)} (ha : SheetOk a) (hb : SheetOk b) : SheetsOk [[a, b]] := by
  refine ⟨nle rfl, nle rfl, fun l hl => ?_⟩
  rw [List.mem_singleton.mp hl]
  refine ⟨⟨nle rfl, nle rfl⟩, rfl, fun x hx => ?_⟩
  rcases List.mem_cons.mp hx with z | z
  · rw [z]; exact ha
  · rw [List.mem_singleton.mp z]; exact hb
theorem sheets2 {a b : List (List Int)} (ha : SheetOk a) (hb : SheetOk b) : SheetsOk [[a], [b]] := by
  refine ⟨nle rfl, nle rfl, fun l hl => ?_⟩
  rcases List.mem_cons.mp hl with z | z
  · rw [z]
    refine ⟨⟨nle rfl, nle rfl⟩, rfl, fun x hx => ?_⟩
    rw [List.mem_singleton.mp hx]
    exact ha
  · rw [List.mem_singleton.mp z]
    refine ⟨⟨nle rfl, nle rfl⟩, rfl, fun x hx => ?_⟩
    rw [List.mem_singleton.mp hx]
    exact hb
/-- the law behind its first row -/
def t_rest (K : PySem.W.Frag) (Z : Cst) (p__law_map : Sp) (p__law_style : Sp) (p__law_next : Sp) (p__law_coordinate : Sp) (p_tile_picture : Sp) (p_is_sheet : Sp) (p_picture : Sp) (p__law_top : Sp) (p_joined : Sp) : TS :=
  (tSeq (tAsg (tCall p__law_map [] E0 (tCons (tVar 1) (tCons (tC (.int 40)) tNil))) (gName 2))
  (tSeq (tAsg (tSl (rSlA K) (tCall p__law_style [] E0 (tCons (tVar 1) (tCons (tC (.int 1)) tNil))) tNoPart (tPart (tC (.int 3)))) (gName 3))
  (tSeq (tAsg (tCall p__law_next [] E0 (tCons (tVar 1) (tCons (tC (.int 7)) tNil))) (gName 4))
  (tSeq (tAsg (tCall p__law_coordinate [] E0 (tCons (tVar 1) (tCons (tC (.int 2)) tNil))) (gName 5))
  (tSeq (tAsg (tCall p__law_coordinate [] E0 (tCons (tVar 1) (tCons (tC (.int 2)) tNil))) (gName 6))
  (tSeq (tAsg (tCall p_tile_picture [] E0 (tCons (tVar 2) (tCons (tVar 3) (tCons (tTup (tCons (tVar 4) (tCons (tVar 5) (tCons (tVar 6) tNil)))) tNil)))) (gName 7))
  (tSeq (tIfS (tOr (tTest (tOp rNotB (tCall p_is_sheet [] E0 (tCons (tVar 7) tNil)) (tC (.bl true)))) (tTest (tOp (rNeD K) (tCall p_picture [] E0 (tCons (tVar 2) (tCons (tVar 3) (tCons (tVar 4) (tCons (tTup (tCons (tOp rMu (tC (.int 16)) (tVar 5)) (tCons (tOp rMu (tC (.int 16)) (tVar 6)) (tCons (tC (.int 16)) (tCons (tC (.int 16)) tNil))))) tNil))))) (tVar 7)))) (tRet (tC (.bl false))) tNext)
  (tSeq (tFor (iRng1 (tCons (tC (.int 4)) tNil)) (gName 8) (tSeq (tAsg (tCall p__law_next [] E0 (tCons (tVar 1) (tCons (tC (.int 16)) tNil))) (gName 9))
  (tSeq (tAsg (tCall p__law_next [] E0 (tCons (tVar 1) (tCons (tC (.int 16)) tNil))) (gName 10))
  (tIfS (tTest (tOp rNe (tOp (rIxT K) (tOp (rIxT K) (tVar 7) (tOp rSu (tC (.int 15)) (tVar 10))) (tVar 9)) (tOp (rIxT K) (tCall p__law_top [] E0 (tCons (tVar 2) (tCons (tVar 3) (tCons (tVar 4) (tCons (tOp rAd (tOp rMu (tC (.int 16)) (tVar 5)) (tVar 9)) (tCons (tOp rAd (tOp rMu (tC (.int 16)) (tVar 6)) (tVar 10)) tNil)))))) (tC (.int 0))))) (tRet (tC (.bl false))) tNext))))
  (tSeq (tIfS (tTest (tOp rEq (tCall p__law_next [] E0 (tCons (tVar 1) (tCons (tC (.int 2)) tNil))) (tC (.int 1)))) (tSeq (tAsg (tCall p_tile_picture [] E0 (tCons (tVar 2) (tCons (tVar 3) (tCons (tTup (tCons (tVar 4) (tCons (tOp rAd (tVar 5) (tC (.int 1))) (tCons (tVar 6) tNil)))) tNil)))) (gName 11))
  (tRet (tOp (rEqD K) (tCall p_joined [] E0 (tCons (tLst (tCons (tLst (tCons (tVar 7) (tCons (tVar 11) tNil))) tNil)) tNil)) (tCall p_picture [] E0 (tCons (tVar 2) (tCons (tVar 3) (tCons (tVar 4) (tCons (tTup (tCons (tOp rMu (tC (.int 16)) (tVar 5)) (tCons (tOp rMu (tC (.int 16)) (tVar 6)) (tCons (tC (.int 32)) (tCons (tC (.int 16)) tNil))))) tNil)))))))) tNext)
  (tSeq (tAsg (tCall p_tile_picture [] E0 (tCons (tVar 2) (tCons (tVar 3) (tCons (tTup (tCons (tVar 4) (tCons (tVar 5) (tCons (tOp rAd (tVar 6) (tC (.int 1))) tNil)))) tNil)))) (gName 12))
  (tRet (tOp (rEqD K) (tCall p_joined [] E0 (tCons (tLst (tCons (tLst (tCons (tVar 12) tNil)) (tCons (tLst (tCons (tVar 7) tNil)) tNil))) tNil)) (tCall p_picture [] E0 (tCons (tVar 2) (tCons (tVar 3) (tCons (tVar 4) (tCons (tTup (tCons (tOp rMu (tC (.int 16)) (tVar 5)) (tCons (tOp rMu (tC (.int 16)) (tVar 6)) (tCons (tC (.int 16)) (tCons (tC (.int 32)) tNil))))) tNil)))))))))))))))))
theorem ed_next2 {i : Nat} {st : Addr} {x : StS} {k : Int} (a : At de i (.o st)) (hm : 0 < k ∧ k ≤ 1000) (ha : OmAt om st (.l (encS x))) (hs : OmSet om st (.l (encS (nextF x k).2)) om') :
    ED K C (tCall (spS K C R_next) [] E0 (tCons (tVar i) (tCons (tC (.int k)) tNil))) de om (.int (nextF x k).1) om' := ed_next a ed_int hm ha hs
theorem sd_rest {p : Addr} {s0 : StS} : SD K C (t_rest K Z (spS K C R_map) (spS K C R_style) (spS K C R_next) (spS K C R_coord) (spD K C R_drawn_tile) (spD K C R_is_sheet) (spD K C R_picture) (spD K C R_top) (spD K C R_joined))
    [.no, .o p, .no, .no, .no, .no, .no, .no, .no, .no, .no, .no, .no] [(p, .l (encS s0))] (fin (.bl true)) := by
  have hts := map_ok s0
  have hrs := sty_ok (mapF s0 40).2 1
  have hz := next_rng (styF (mapF s0 40).2 1).2 (m := 7) (by decide)
  have hc := coord_rng (nextF (styF (mapF s0 40).2 1).2 7).2 (m := 2) (by decide)
  have hr := coord_rng (coordF (nextF (styF (mapF s0 40).2 1).2 7).2 2).2 (m := 2) (by decide)
  refine sd_seq (sd_asg (ed_scall (.s .z) (ad_cons ed_int ad_nil) .z ⟨s0, 40, by decide, rfl, rfl, rfl, rfl⟩ .z) w2 ?_)
  refine sd_seq (sd_asg (ed_is (ed_slTo (k := 3) (ed_scall (s' := encS (styF (mapF s0 40).2 1).2) (d := dSty (styF (mapF s0 40).2 1).1) (.s .z) (ad_cons ed_int ad_nil) .z ⟨(mapF s0 40).2, 1, by decide, rfl, rfl, rfl, rfl⟩ .z) pd_none (pd_some ed_int)) (d' := dSty ((styF (mapF s0 40).2 1).1.take 3)) (by unfold dSty; rw [List.map_take])) w3 ?_)
  refine sd_seq (sd_asg (ed_next2 (x := (styF (mapF s0 40).2 1).2) (.s .z) (by decide) .z .z) w4 ?_)
  refine sd_seq (sd_asg (ed_coord (x := (nextF (styF (mapF s0 40).2 1).2 7).2) (.s .z) ed_int (by decide) .z .z) w5 ?_)
  refine sd_seq (sd_asg (ed_coord (x := (coordF (nextF (styF (mapF s0 40).2 1).2 7).2 2).2) (.s .z) ed_int (by decide) .z .z) w6 ?_)
  generalize (coordF (coordF (nextF (styF (mapF s0 40).2 1).2 7).2 2).2 2).2 = s1
  generalize (coordF (coordF (nextF (styF (mapF s0 40).2 1).2 7).2 2).2 2).1 = r at *
  generalize (coordF (nextF (styF (mapF s0 40).2 1).2 7).2 2).1 = c at *
  generalize (nextF (styF (mapF s0 40).2 1).2 7).1 = sc at *
  generalize (styF (mapF s0 40).2 1).1.take 3 = rs at *
  generalize (mapF s0 40).1 = ts at *
  have hsc : ScOk sc := ⟨hz.1, by omega⟩
  have sh := sheet_ok (ts := ts) hrs sc
  have tile : ∀ c' r' : Int, (-2 ≤ c' ∧ c' ≤ 3) → (-2 ≤ r' ∧ r' ≤ 3) → TileOk sc c' r' := fun c' r' h1 h2 => ⟨hsc, by omega, by omega⟩
  have win : ∀ ww hh : Nat, 1 ≤ ww → ww ≤ 32 → 1 ≤ hh → hh ≤ 32 → WinOk (16 * c) (16 * r) ww hh := fun ww hh h1 h2 h3 h4 => ⟨by omega, by omega, by omega, by omega, h1, by omega, h3, by omega⟩
  refine sd_seq (sd_asg (ed_call (ad_cons v2 (ad_cons v3 (ad_cons (ed_tup (ad_cons v4 (ad_cons v5 (ad_cons v6 ad_nil))) (nle rfl)) ad_nil))) ⟨ts, rs, sc, c, r, hts, hrs, tile c r (by omega) (by omega), rfl, rfl⟩) w7 ?_)
  refine sd_seq (sd_ifF (td_or2 (td_is (td_test (ed_op (ed_call (ad_cons v7 ad_nil) ⟨_, sh _ _, rfl, rfl⟩) ed_bl od_notB)) rfl)
    (td_is (td_test (ed_op (ed_call (ad_cons v2 (ad_cons v3 (ad_cons v4 (ad_cons (ed_tup (ad_cons (ed_op ed_int v5 (od_mul (CMul.l (by decide)))) (ad_cons (ed_op ed_int v6 (od_mul (CMul.l (by decide)))) (ad_cons ed_int (ad_cons ed_int ad_nil)))) (nle rfl)) ad_nil)))) ⟨ts, rs, sc, 16 * c, 16 * r, 16, 16, hts, hrs, hsc, win 16 16 (by decide) (by decide) (by decide) (by decide), rfl, rfl⟩) v7 (od_neD (pic_pl _) (pic_pl _) (pic_shaped _).1 (pic_shaped _).1))) (by rw [pic_eqv]; rfl))) (sd_next ?_))
  refine sd_seq (sd_for (il_r1 (ad_cons ed_int ad_nil) (by decide) (by decide)) (fun _ => [.no, .o p, .d (dMap ts), .d (dSty rs), .d (.int sc), .d (.int c), .d (.int r), .d (dPic (picF ts rs sc (16 * c) (16 * r) 16 16)), .no, .no, .no, .no, .no]) (fun i => [(p, .l (encS (lpS s1 i)))]) (by repeat constructor) (List.Sublist.refl _) (fun i d hd => ?_) ?_)
  · obtain ⟨hi, rfl⟩ := rngD_at hd
    have hu := next_rng (lpS s1 i) (m := 16) (by decide)
    have hq := next_rng (nextF (lpS s1 i) 16).2 (m := 16) (by decide)
    refine ⟨_, _, gd_name w8, ?_⟩
    refine sd_seq (sd_asg (ed_next2 (x := lpS s1 i) (.s .z) (by decide) .z .z) w9 ?_)
    refine sd_seq (sd_asg (ed_next2 (x := (nextF (lpS s1 i) 16).2) (.s .z) (by decide) .z .z) w10 ?_)
    refine sd_ifF (td_neF (ed_pix v7 v10 v9 hq hu) (ed_hi (ed_call (ad_cons v2 (ad_cons v3 (ad_cons v4 (ad_cons (ed_op (ed_op ed_int v5 (od_mul (CMul.l (by decide)))) v9 od_add) (ad_cons (ed_op (ed_op ed_int v6 (od_mul (CMul.l (by decide)))) v10 od_add) ad_nil))))) ⟨ts, rs, sc, _, _, hts, hrs, hsc, ⟨⟨by omega, by omega⟩, by omega, by omega⟩, rfl, rfl⟩)) rfl) (sd_next ⟨by repeat constructor, List.Sublist.refl _⟩)
  · have ew := join_right ts rs sc c r
    have ea := join_above ts rs sc c r
    refine sd_seq (sd_if (td_test (ed_op (ed_next2 (x := lpS s1 (rngD 0 (4 : Int).toNat).length) (.s .z) (by decide) .z .z) ed_int od_eqI)) (fun _ => ?_) fun _ => sd_next ?_)
    · refine sd_seq (sd_asg (ed_call (ad_cons v2 (ad_cons v3 (ad_cons (ed_tup (ad_cons v4 (ad_cons (ed_op v5 ed_int od_add) (ad_cons v6 ad_nil))) (nle rfl)) ad_nil))) ⟨ts, rs, sc, c + 1, r, hts, hrs, tile (c + 1) r (by omega) (by omega), rfl, rfl⟩) w11 ?_)
      have hj := ed_call (K := K) (C := C) (R := R_joined) (E := E0) (ad_cons (ed_frz (en_lst (ad_cons (ed_frz (en_lst (ad_cons (v7 (K := K) (C := C) (s0 := .no) (s1 := .o p) (s2 := .d (dMap ts)) (s3 := .d (dSty rs)) (s4 := .d (.int sc)) (s5 := .d (.int c)) (s6 := .d (.int r)) (l := [.no, .no, .no, .d (dPic (picF ts rs sc (16 * (c + 1)) (16 * r) 16 16)), .no]) (om := [(p, .l (encS (nextF (lpS s1 (rngD 0 (4 : Int).toNat).length) 2).2))])) (ad_cons v11 ad_nil)) (nle rfl))) ad_nil) (nle rfl))) ad_nil) ⟨[[picF ts rs sc (16 * c) (16 * r) 16 16, picF ts rs sc (16 * (c + 1)) (16 * r) 16 16]], sheets1 (sh _ _) (sh _ _), rfl, rfl⟩
      rw [ew] at hj
      refine sd_ret (ed_is (ed_op hj (ed_call (ad_cons v2 (ad_cons v3 (ad_cons v4 (ad_cons (ed_tup (ad_cons (ed_op ed_int v5 (od_mul (CMul.l (by decide)))) (ad_cons (ed_op ed_int v6 (od_mul (CMul.l (by decide)))) (ad_cons ed_int (ad_cons ed_int ad_nil)))) (nle rfl)) ad_nil)))) ⟨ts, rs, sc, 16 * c, 16 * r, 32, 16, hts, hrs, hsc, win 32 16 (by decide) (by decide) (by decide) (by decide), rfl, rfl⟩) (od_eqD (pic_pl _) (pic_pl _) (pic_shaped _).1 (pic_shaped _).1)) (congrArg D.bl (pic_eqv _))) rfl
    · refine sd_seq (sd_asg (ed_call (ad_cons v2 (ad_cons v3 (ad_cons (ed_tup (ad_cons v4 (ad_cons v5 (ad_cons (ed_op v6 ed_int od_add) ad_nil))) (nle rfl)) ad_nil))) ⟨ts, rs, sc, c, r + 1, hts, hrs, tile c (r + 1) (by omega) (by omega), rfl, rfl⟩) w12 ?_)
      have hj := ed_call (K := K) (C := C) (R := R_joined) (E := E0) (ad_cons (ed_frz (en_lst (ad_cons (ed_frz (en_lst (ad_cons (v12 (K := K) (C := C) (s0 := .no) (s1 := .o p) (s2 := .d (dMap ts)) (s3 := .d (dSty rs)) (s4 := .d (.int sc)) (s5 := .d (.int c)) (s6 := .d (.int r)) (s7 := .d (dPic (picF ts rs sc (16 * c) (16 * r) 16 16))) (s8 := .no) (s9 := .no) (s10 := .no) (s11 := .no) (l := []) (om := [(p, .l (encS (nextF (lpS s1 (rngD 0 (4 : Int).toNat).length) 2).2))])) ad_nil) (nle rfl))) (ad_cons (ed_frz (en_lst (ad_cons v7 ad_nil) (nle rfl))) ad_nil)) (nle rfl))) ad_nil) ⟨[[picF ts rs sc (16 * c) (16 * (r + 1)) 16 16], [picF ts rs sc (16 * c) (16 * r) 16 16]], sheets2 (sh _ _) (sh _ _), rfl, rfl⟩
      rw [ea] at hj
      refine sd_ret (ed_is (ed_op hj (ed_call (ad_cons v2 (ad_cons v3 (ad_cons v4 (ad_cons (ed_tup (ad_cons (ed_op ed_int v5 (od_mul (CMul.l (by decide)))) (ad_cons (ed_op ed_int v6 (od_mul (CMul.l (by decide)))) (ad_cons ed_int (ad_cons ed_int ad_nil)))) (nle rfl)) ad_nil)))) ⟨ts, rs, sc, 16 * c, 16 * r, 16, 32, hts, hrs, hsc, win 16 32 (by decide) (by decide) (by decide) (by decide), rfl, rfl⟩) (od_eqD (pic_pl _) (pic_pl _) (pic_shaped _).1 (pic_shaped _).1)) (congrArg D.bl (pic_eqv _))) rfl
end
end TA

/-! The law keeps its promise. -/
namespace TA
open PySem L2
section
variable {P : Program} {w : World} {K : PySem.W.Frag} {mg : Str → Option Value} {base : Heap} {Z : Cst}
def spLaw (K : PySem.W.Frag) : Sp := fun vs H Q _ => ∃ (a : Addr) (ns : List Int), vs = [.ref a] ∧ SqL K H a (ns.map V.int) ∧ ∀ H', Q (.bl true) H'
theorem run_law (vs : List V) (H : Hp) (Q : VK) (E : XK) (h : spLaw K vs H Q E) :
    t_law K Z (spStream K) (spS K Z.C R_map) (spS K Z.C R_style) (spS K Z.C R_next) (spS K Z.C R_coord) (spD K Z.C R_drawn_tile) (spD K Z.C R_is_sheet) (spD K Z.C R_picture) (spD K Z.C R_top) (spD K Z.C R_joined) { nx := fun _ H' => Q .non H', rt := Q } (L2.start N_law vs) H := by
  obtain ⟨a, ns, rfl, hS, q⟩ := h
  refine ⟨.ref a, rfl, a, ns, rfl, hS, fun l p hl hp => ?_⟩
  have npl : l ≠ p := fun e => by
    subst e
    rw [upd_same] at hp
    cases hp
  have hG : (upd (fun _ => none) l (.lst (ns.map V.int)) : Hp) p = none := by rw [upd_ne (Ne.symm npl)]
  have hGl : (upd (fun _ => none) l (.lst (ns.map V.int)) : Hp) l = some (.lst (ns.map V.int)) := upd_same
  have sub : Same (upd (fun _ => none) l (.lst (ns.map V.int)) : Hp) (upd (upd H l (.lst (ns.map V.int))) p (.lst [.ref l, .int 0, .int 0])) := fun b o e => by
    by_cases z : b = l
    · subst z
      rw [upd_same] at e
      rw [upd_ne npl, upd_same]
      exact e
    · rw [upd_ne z] at e
      cases e
  have St : St0 K Z.C (upd (fun _ => none) l (.lst (ns.map V.int)) : Hp) (upd (upd H l (.lst (ns.map V.int))) p (.lst [.ref l, .int 0, .int 0])) ((L2.start N_law [.ref a]).set 1 (some (.ref p))) [.no, .o p, .no, .no, .no, .no, .no, .no, .no, .no, .no, .no, .no] [(p, .l (encS ⟨ns, 0, 0⟩))] := by
    refine ⟨sub, ⟨rfl, fun i s e => ?_⟩, ⟨fun r hr => ?_, by simp⟩⟩
    · match i, e with
      | 0, e => cases e; trivial
      | 1, e => cases e; exact rfl
      | 2, e => cases e; trivial
      | 3, e => cases e; trivial
      | 4, e => cases e; trivial
      | 5, e => cases e; trivial
      | 6, e => cases e; trivial
      | 7, e => cases e; trivial
      | 8, e => cases e; trivial
      | 9, e => cases e; trivial
      | 10, e => cases e; trivial
      | 11, e => cases e; trivial
      | 12, e => cases e; trivial
      | _ + 13, e => simp at e
    · rw [List.mem_singleton.mp hr]
      exact ⟨hG, [.ref l, .int 0, .int 0], upd_same, .cons (.lst hGl (RpAll.of_ints ns)) (.cons (.int 0) (.cons (.int 0) .nil))⟩
  refine sd_rest (Z := Z) (s0 := ⟨ns, 0, 0⟩) ⟨_, _, _⟩ _ _ _ _ (Rel.here St) ⟨?_, ?_, ?_, ?_⟩
  · intro G1 H1 σ1 de1 om1 R1 z
    have z : D.bl true = D.non := z
    cases z
  · intro v G1 H1 d1 om1 g1 o1 r1 z
    have z : d1 = .bl true := z
    subst z
    rw [r1.bl_of]
    exact q H1
  · intro G1 H1 σ1 de1 om1 R1 z
    exact z.elim
  · intro G1 H1 σ1 de1 om1 R1 z
    exact z.elim
theorem has_law (Y : FX K mg Z) (hw : Z.w = w) : Has P w K mg base 10 "law" ["_law_script"] (spLaw K) :=
  ok_law Y (has__law_stream Y) (has__law_map Y) (has__law_style Y) (has__law_next Y) (has__law_coordinate Y) (has_tile_picture Y hw) (has_is_sheet Y) (has_picture Y hw) (has__law_top Y) (has_joined Y)
    (fun vs H Q E ⟨a, ns, e, _⟩ => by rw [e]; rfl) run_law
end
end TA

/-! Printed by genl.py: the law's function, the same one over every base. -/
namespace TA
open PySem PySem.Spec L2
open PyProof.Rows (boot_isinstance boot_int boot_bool boot_tuple boot_all boot_any boot_abs boot_min boot_sorted boot_str boot_list)
theorem law_fn {P : Program} {w : World} {K : PySem.W.Frag} {mg : Str → Option Value} {Z : Cst} (Y : FX K mg Z) (hw : Z.w = w) : ∃ f fd, mg "law" = some (.ref f) ∧ (∀ (s : Shared) (us : List Value), us.length = (["_law_script"] : List Str).length → BindsTo s fd ⟨us, []⟩ ((["_law_script"] : List Str).zip us)) ∧
    ∀ base : Heap, FnOk P w K mg base CX0 10 f fd ["_law_script"] (spLaw K) := by
  obtain ⟨f, fd, F, gm⟩ := Y.df 61 _ rfl
  refine ⟨f, fd, gm, FunD.bindsA F fun _ _ _ _ _ _ us hl => match us, hl with | [_], _ => rfl, fun base => ?_⟩
  have h__law_stream := has__law_stream (P := P) (w := w) (base := base) Y
  have h__law_map := has__law_map (P := P) (w := w) (base := base) Y
  have h__law_style := has__law_style (P := P) (w := w) (base := base) Y
  have h__law_next := has__law_next (P := P) (w := w) (base := base) Y
  have h__law_coordinate := has__law_coordinate (P := P) (w := w) (base := base) Y
  have h_tile_picture := has_tile_picture (P := P) (w := w) (base := base) Y hw
  have h_is_sheet := has_is_sheet (P := P) (w := w) (base := base) Y
  have h_picture := has_picture (P := P) (w := w) (base := base) Y hw
  have h__law_top := has__law_top (P := P) (w := w) (base := base) Y
  have h_joined := has_joined (P := P) (w := w) (base := base) Y
  exact F.ok sc_law (fun vs H Q E ⟨a, ns, e, _⟩ => by rw [e]; rfl) fun cdv A outer s H vs Q E hr h => ⟨_, PSs.nox (pss_cons (ps_set (i := 1) sc_law.nd rfl (Or.inl rfl) (pe_has h__law_stream hr (by decide) rfl (pa_cons (pv 0) pa_nil)))
    (pss_cons (ps_set (i := 2) sc_law.nd rfl (Or.inl rfl) (pe_has h__law_map hr (by decide) rfl (pa_cons (pv 1) (pa_cons pe_int pa_nil))))
    (pss_cons (ps_set (i := 3) sc_law.nd rfl (Or.inl rfl) (pe_slice sl_tupA (pe_has h__law_style hr (by decide) rfl (pa_cons (pv 1) (pa_cons pe_int pa_nil))) po_none (po_some pe_int)))
    (pss_cons (ps_set (i := 4) sc_law.nd rfl (Or.inl rfl) (pe_has h__law_next hr (by decide) rfl (pa_cons (pv 1) (pa_cons pe_int pa_nil))))
    (pss_cons (ps_set (i := 5) sc_law.nd rfl (Or.inl rfl) (pe_has h__law_coordinate hr (by decide) rfl (pa_cons (pv 1) (pa_cons pe_int pa_nil))))
    (pss_cons (ps_set (i := 6) sc_law.nd rfl (Or.inl rfl) (pe_has h__law_coordinate hr (by decide) rfl (pa_cons (pv 1) (pa_cons pe_int pa_nil))))
    (pss_cons (ps_set (i := 7) sc_law.nd rfl (Or.inl rfl) (pe_has h_tile_picture hr (by decide) rfl (pa_cons (pv 2) (pa_cons (pv 3) (pa_cons (pe_tup (pa_cons (pv 4) (pa_cons (pv 5) (pa_cons (pv 6) pa_nil)))) pa_nil)))))
    (pss_cons (ps_if (PW.pt (pw_or (pt_cmpR op_notBl (pe_has h_is_sheet hr (by decide) rfl (pa_cons (pv 7) pa_nil)) pe_bl rfl) (pw_or1 (pt_cmpR (op_neD (Room.units hr)) (pe_has h_picture hr (by decide) rfl (pa_cons (pv 2) (pa_cons (pv 3) (pa_cons (pv 4) (pa_cons (pe_tup (pa_cons (pe_op op_mul pe_int (pv 5)) (pa_cons (pe_op op_mul pe_int (pv 6)) (pa_cons pe_int (pa_cons pe_int pa_nil))))) pa_nil))))) (pv 7) rfl)))) (pss_one (ps_ret pe_bl)) pss_nil)
    (pss_cons (ps_for PassesOwn.never rfl (pi_range1 rfl (Y.fr 11 _ rfl) (pa_cons pe_int pa_nil)) (pg_name (i := 8) sc_law.nd rfl (Or.inl rfl)) (pss_cons (ps_set (i := 9) sc_law.nd rfl (Or.inl rfl) (pe_has h__law_next hr (by decide) rfl (pa_cons (pv 1) (pa_cons pe_int pa_nil))))
    (pss_cons (ps_set (i := 10) sc_law.nd rfl (Or.inl rfl) (pe_has h__law_next hr (by decide) rfl (pa_cons (pv 1) (pa_cons pe_int pa_nil))))
    (pss_one (ps_if (pt_cmpR op_ne (pe_ix ix_tup (pe_ix ix_tup (pv 7) (pe_op op_sub pe_int (pv 10)) (fun _ _ => rfl)) (pv 9) (fun _ _ => rfl)) (pe_ix ix_tup (pe_has h__law_top hr (by decide) rfl (pa_cons (pv 2) (pa_cons (pv 3) (pa_cons (pv 4) (pa_cons (pe_op op_add (pe_op op_mul pe_int (pv 5)) (pv 9)) (pa_cons (pe_op op_add (pe_op op_mul pe_int (pv 6)) (pv 10)) pa_nil)))))) pe_int (fun _ _ => rfl)) rfl) (pss_one (ps_ret pe_bl)) pss_nil)))))
    (pss_cons (ps_if (pt_cmpR op_eq (pe_has h__law_next hr (by decide) rfl (pa_cons (pv 1) (pa_cons pe_int pa_nil))) pe_int rfl) (pss_cons (ps_set (i := 11) sc_law.nd rfl (Or.inl rfl) (pe_has h_tile_picture hr (by decide) rfl (pa_cons (pv 2) (pa_cons (pv 3) (pa_cons (pe_tup (pa_cons (pv 4) (pa_cons (pe_op op_add (pv 5) pe_int) (pa_cons (pv 6) pa_nil)))) pa_nil)))))
    (pss_one (ps_ret (pe_cmpR (op_eqD (Room.units hr)) (pe_has h_joined hr (by decide) rfl (pa_cons (pe_lst (pa_cons (pe_lst (pa_cons (pv 7) (pa_cons (pv 11) pa_nil))) pa_nil)) pa_nil)) (pe_has h_picture hr (by decide) rfl (pa_cons (pv 2) (pa_cons (pv 3) (pa_cons (pv 4) (pa_cons (pe_tup (pa_cons (pe_op op_mul pe_int (pv 5)) (pa_cons (pe_op op_mul pe_int (pv 6)) (pa_cons pe_int (pa_cons pe_int pa_nil))))) pa_nil))))) rfl)))) pss_nil)
    (pss_cons (ps_set (i := 12) sc_law.nd rfl (Or.inl rfl) (pe_has h_tile_picture hr (by decide) rfl (pa_cons (pv 2) (pa_cons (pv 3) (pa_cons (pe_tup (pa_cons (pv 4) (pa_cons (pv 5) (pa_cons (pe_op op_add (pv 6) pe_int) pa_nil)))) pa_nil)))))
    (pss_one (ps_ret (pe_cmpR (op_eqD (Room.units hr)) (pe_has h_joined hr (by decide) rfl (pa_cons (pe_lst (pa_cons (pe_lst (pa_cons (pv 12) pa_nil)) (pa_cons (pe_lst (pa_cons (pv 7) pa_nil)) pa_nil))) pa_nil)) (pe_has h_picture hr (by decide) rfl (pa_cons (pv 2) (pa_cons (pv 3) (pa_cons (pv 4) (pa_cons (pe_tup (pa_cons (pe_op op_mul pe_int (pv 5)) (pa_cons (pe_op op_mul pe_int (pv 6)) (pa_cons pe_int (pa_cons pe_int pa_nil))))) pa_nil))))) rfl)))))))))))))), run_law (Z := Z) vs H Q E h⟩
end TA

/-! The head's facts as the walks want them. -/
namespace TA
open PySem PySem.Spec L2
theorem tupAt_ok {K : PySem.W.Frag} {a : Addr} {vs : List V} (h : tupAt K a vs = true) (H : Hp) : SqT K H a vs := by
  unfold tupAt at h
  cases q : K.lookup a with
  | none =>
    rw [q] at h
    cases h
  | some o =>
    obtain ⟨oc, od, dt, osl⟩ := o
    rw [q] at h
    cases oc with
    | type c =>
      cases dt with
      | seq its n =>
        have z : (decide (c = "tuple") && (decide (its.size ≤ sizeLine) && He.relAll vs its.toList)) = true := h
        obtain ⟨z1, z2⟩ := He.ba z
        obtain ⟨z3, z4⟩ := He.ba z2
        exact .inr ⟨_, its, n, q, congrArg Value.type (of_decide_eq_true z1), rfl, of_decide_eq_true z3, He.relAll_ok z4⟩
      | _ => cases h
    | _ => cases dt <;> cases h
theorem fitB_ok {K : PySem.W.Frag} {w : World} {x : Str} {zs : List Str} (h : fitB K x zs = true) (d : ∃ es n, KDict K w (He.ga K "FITTING") es n) : ∃ a, KDct K w (He.ga K "FITTING") x (.ref a) ∧ ∀ G : Hp, SqT K G a (zs.map V.str) := by
  obtain ⟨es, n, D⟩ := d
  unfold fitB at h
  cases q : PySem.W.nsIn K (He.ga K "FITTING") x with
  | none =>
    rw [q] at h
    cases h
  | some o =>
    rw [q] at h
    cases o with
    | none => cases h
    | some u =>
      cases u with
      | ref a => exact ⟨a, ⟨es, n, .ref a, D.at_, D.lit, q, rfl⟩, tupAt_ok h⟩
      | _ => cases h
def mkD (p : Str × Stmt) : He.DefD := ⟨(p.1, none), p.1, p.1, defArgs p.2, defBody p.2, defScope p.2, [], []⟩
theorem hfn_eq : hfn = dfL.map mkD ++ [⟨("Painter", some "__init__"), "__init__", "Painter.__init__", defArgs s___init__, defBody s___init__, defScope s___init__, [], []⟩, ⟨("Painter", some "covers"), "covers", "Painter.covers", defArgs s_covers, defBody s_covers, defScope s_covers, [], []⟩] := rfl
theorem facts {K : PySem.W.Frag} {h : Heap} {mg : Str → Option Value} {w : World} (X : K.In h) (G : h.Ns mainGlobals mg) (c : He.SaysX hfa hfn hts [] hex w h K) :
    FX K mg ⟨w, He.ga K "Painter", He.ga K "UNITS", He.ga K "FITTING"⟩ := by
  have d := c.t.d
  obtain ⟨m1, m2⟩ := He.ba c.more
  obtain ⟨m3, m4⟩ := He.ba m2
  obtain ⟨m5, m6⟩ := He.ba m4
  have tab : ∃ es n, KDict K w (He.ga K "FITTING") es n := c.t.tab 0 (t := (fun K => He.ga K "FITTING", ["fill", "stroke", "dot"])) rfl
  have fc : ∀ f ∈ hcl, f ∈ hfa := fun f hf => List.mem_append_right _ (List.mem_append_right _ (List.mem_append_right _ (List.mem_append_right _ hf)))
  have glo : ∀ p ∈ dfL, mg p.1 = some (.ref (He.ga K p.1)) := fun p hp => He.glo_ok X G (d.facts (f := .glo p.1) (List.mem_append_right _ (List.mem_append_right _ (List.mem_append_right _ (List.mem_append_left _ (List.mem_map.mpr ⟨p, hp, rfl⟩))))))
  refine ⟨fun i x hx => ?_, fun i p hp => ?_, fun i p hp => ?_, fun i p hp => ?_, ?_, ?_, fun x hx => ?_, ?_, ?_, ?_, ?_, ?_, fun p hp => ?_⟩
  · exact He.free_ok X G (d.facts (f := .free x) (List.mem_append_left _ (List.mem_map.mpr ⟨x, List.mem_of_getElem? hx, rfl⟩)))
  · exact He.int_ok X G (d.facts (f := .int p.1 p.2) (List.mem_append_right _ (List.mem_append_left _ (List.mem_map.mpr ⟨p, List.mem_of_getElem? hp, rfl⟩))))
  · exact He.str_ok X G (d.facts (f := .str p.1 p.2) (List.mem_append_right _ (List.mem_append_right _ (List.mem_append_left _ (List.mem_map.mpr ⟨p, List.mem_of_getElem? hp, rfl⟩)))))
  · have hm := List.mem_of_getElem? hp
    obtain ⟨fd, F⟩ := d.defs (d := mkD p) (by rw [hfn_eq]; exact List.mem_append_left _ (List.mem_map.mpr ⟨p, hm, rfl⟩))
    exact ⟨_, fd, F, glo p hm⟩
  · exact He.cls_ok (d.facts (f := .cls "Painter") (fc _ (by simp [hcl])))
  · exact He.glo_ok X G (d.facts (f := .glo "Painter") (fc _ (by simp [hcl])))
  · refine He.noat_ok (d.facts (f := .noat "Painter" x) (fc _ ?_))
    simp only [List.mem_cons, List.not_mem_nil, or_false] at hx
    rcases hx with rfl | rfl | rfl | rfl <;> simp [hcl]
  · obtain ⟨fd, F⟩ := d.defs (d := ⟨("Painter", some "__init__"), "__init__", "Painter.__init__", defArgs s___init__, defBody s___init__, defScope s___init__, [], []⟩) (by rw [hfn_eq]; simp)
    exact ⟨_, fd, He.mkr_ok (d.facts (f := .mkr "Painter") (fc _ (by simp [hcl]))), F⟩
  · obtain ⟨fd, F⟩ := d.defs (d := ⟨("Painter", some "covers"), "covers", "Painter.covers", defArgs s_covers, defBody s_covers, defScope s_covers, [], []⟩) (by rw [hfn_eq]; simp)
    exact ⟨_, fd, He.meth_ok (d.facts (f := .meth "Painter" "covers") (fc _ (by simp [hcl]))), F⟩
  · exact He.glo_ok X G (d.facts (f := .glo "UNITS") (fc _ (by simp [hcl])))
  · exact tupAt_ok m1
  · exact He.glo_ok X G (d.facts (f := .glo "FITTING") (fc _ (by simp [hcl])))
  · simp only [List.mem_cons, List.not_mem_nil, or_false] at hp
    rcases hp with rfl | rfl | rfl
    · exact fitB_ok m3 tab
    · exact fitB_ok m5 tab
    · exact fitB_ok m6 tab
end TA

open PySem PySem.W PySem.Calls PyProof.Rows
theorem PySem.Challenge.cw_trueatlas_k69_whole_tiles_have_no_seams_holds : PySem.Challenge.rw_trueatlas_k69_whole_tiles_have_no_seams.Holds := by
  w_on; o_law
  refine HandSHeadRun.head_imp (r := TA.hR) (q := PySem.W.view TA.hR.prog [0, 98]) (H := TA.hk) (ob := TA.hob) (M := 20000) (loose := TA.looseL) (d := HandSHeadRun.topDef TA.hR.prog 98) (kwd := []) TA.hob_eq TA.hrun
    (by kernel_rfl) (by kernel_rfl) (by kernel_rfl) (by rfl) (by first | assumption | decide +kernel) (by decide +kernel) ⟨rfl, rfl, rfl, rfl, rfl, by decide +kernel⟩ ?hw ?hc
  case hw => w_witness2
  case hc =>
    refine L2.walk_ofE (l := PySem.Challenge.rw_trueatlas_k69_whole_tiles_have_no_seams) (n := 63) (k := 10) (x := "_law_script") (CX := L2.CX0) rfl (by decide) (by kernel_rfl) ⟨rfl, by decide, by decide⟩ ?F (fun _ _ _ _ z => z)
    intro w mg fa h Y G hmg0
    obtain ⟨K, KX, c⟩ := Y
    have hmg : mg ("law" : PySem.Str) = some (.ref fa) := by
      have e : (HandSHeadRun.topDef TA.hR.prog 98).name = ("law" : PySem.Str) := by kernel_rfl
      rw [← e]
      exact hmg0
    have F := TA.facts KX G c
    obtain ⟨f, fd, gf, hb, hF⟩ := TA.law_fn (P := (PySem.Challenge.rw_trueatlas_k69_whole_tiles_have_no_seams).prog) (w := w) F rfl
    have e : f = fa := by
      have z := gf.symm.trans hmg
      cases z
      rfl
    subst e
    exact ⟨K, fd, TA.spLaw K, KX, fun s u => hb s [u] rfl, fun H a ns hl _ hS => ⟨a, ns, rfl, hS, fun _ => rfl⟩, fun base _ _ => hF base⟩

