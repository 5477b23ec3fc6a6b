import PyProof.Rows.All
import Wide.All
import OpenK.AllK
import Wide.FinOn
import PySem.Challenge.RW_fleuron_k43_whole_instances
import PyProof.EqAt
import PyProof.EqKinds
import PyProof.TupleCall
import HandS.ForMost
import HandS.Exc
import HandS.ExcInit
import HandS.Defaults
import HandS.HeadHook2
import KE.KStateDown
import HandS.Head0
import HandS.Head1
import Lean
import HandS.Head2
import HandS.HeadEnd
import KE.GoesComp
import KE.GoesRaise
import HandS.WordsExc
import HandS.MakeKwOnly
import HandS.NoneIn
import HandS.Wide
import HandS.Gcd
import HandS.FStr
import HandS.Walk
import HandS.ExcOwn
set_option Elab.async false
set_option linter.all false
set_option maxRecDepth 100000
set_option maxHeartbeats 4000000
namespace Fl
open PySem PySem.Spec PyProof.Rows L2
/-! the text by places -/
def topS (i : Nat) : Stmt := PySem.Challenge.pw_fleuron_k43_whole_instances.main.body.getD i (.Pass ⟨0, 0, 0, 0⟩)
abbrev s_count_points : Stmt := topS 11
abbrev s_is_near : Stmt := topS 12
abbrev s_is_proper : Stmt := topS 13
abbrev s_is_coordinate : Stmt := topS 22
abbrev s_hint_fault : Stmt := topS 23
abbrev s_glyph_fault : Stmt := topS 24
abbrev s_depths : Stmt := topS 25
abbrev s_parts_fault : Stmt := topS 26
abbrev s_chars_fault : Stmt := topS 27
abbrev s_feature_fault : Stmt := topS 34
abbrev s_axis_fault : Stmt := topS 35
abbrev s_region_fault : Stmt := topS 36
abbrev s_Glyph_init : Stmt := inClass (topS 45) 0
abbrev s_copied_glyph : Stmt := topS 48
abbrev s_Font_init : Stmt := inClass (topS 51) 0
abbrev s_Font_refuse : Stmt := inClass (topS 51) 1
abbrev s_Font_check_glyphs : Stmt := inClass (topS 51) 2
abbrev s_Font_check_lookups : Stmt := inClass (topS 51) 3
abbrev s_Font_check_rest : Stmt := inClass (topS 51) 4
abbrev s_glyph_parts : Stmt := topS 52
abbrev s_font_parts : Stmt := topS 55
abbrev s_same_font : Stmt := topS 56
abbrev s_ratio : Stmt := topS 58
abbrev s_add : Stmt := topS 59
abbrev s_subtract : Stmt := topS 60
abbrev s_multiply : Stmt := topS 61
abbrev s_divide : Stmt := topS 62
abbrev s_compare : Stmt := topS 63
abbrev s_nearest : Stmt := topS 64
abbrev s_share : Stmt := topS 68
abbrev s_shares : Stmt := topS 69
abbrev s_tent_factor : Stmt := topS 70
abbrev s_factor : Stmt := topS 71
abbrev s_Moves_init : Stmt := inClass (topS 72) 0
abbrev s_Moves_has : Stmt := inClass (topS 72) 1
abbrev s_Moves_by : Stmt := inClass (topS 72) 2
abbrev s_moved_outline : Stmt := topS 73
abbrev s_varied : Stmt := topS 74
abbrev s_at_place : Stmt := topS 75
abbrev s_OutOfRange_init : Stmt := inClass (topS 4) 0
abbrev s_law_deck : Stmt := topS 77
abbrev s_law_draw : Stmt := topS 78
abbrev s_law_point : Stmt := topS 79
abbrev s_law_outline : Stmt := topS 80
abbrev s_law_axes : Stmt := topS 81
abbrev s_law_tent : Stmt := topS 82
abbrev s_law_place : Stmt := topS 83
abbrev s_law_deltas : Stmt := topS 84
abbrev s_law_font_tent : Stmt := topS 85
abbrev s_law_styled : Stmt := topS 86
abbrev s_law_styled_font : Stmt := topS 87
abbrev s_law_instance : Stmt := topS 88
abbrev s_law : Stmt := topS 89
/-! values found by a path -/
/-- the keyword default x of the def at f, an object -/
def kwdAt (f : Str × Option Str) (x : Str) (K : PySem.W.Frag) : Addr := match K.lookup (He.fAd K f) with
  | some ⟨_, _, .func fd, _⟩ => (match fd.kwdefaults with
    | .ref D => (match PySem.W.nsIn K D x with
      | some (some (.ref a)) => a
      | _ => 0)
    | _ => 0)
  | _ => 0
def d_count_points : He.DefD := ⟨("count_points", none), "count_points", "count_points", defArgs s_count_points, defBody s_count_points, defScope s_count_points, [], []⟩
def d_is_near : He.DefD := ⟨("is_near", none), "is_near", "is_near", defArgs s_is_near, defBody s_is_near, defScope s_is_near, [], []⟩
def d_is_proper : He.DefD := ⟨("is_proper", none), "is_proper", "is_proper", defArgs s_is_proper, defBody s_is_proper, defScope s_is_proper, [], []⟩
def d_is_coordinate : He.DefD := ⟨("is_coordinate", none), "is_coordinate", "is_coordinate", defArgs s_is_coordinate, defBody s_is_coordinate, defScope s_is_coordinate, [], []⟩
def d_hint_fault : He.DefD := ⟨("hint_fault", none), "hint_fault", "hint_fault", defArgs s_hint_fault, defBody s_hint_fault, defScope s_hint_fault, [], []⟩
def d_glyph_fault : He.DefD := ⟨("glyph_fault", none), "glyph_fault", "glyph_fault", defArgs s_glyph_fault, defBody s_glyph_fault, defScope s_glyph_fault, [], []⟩
def d_depths : He.DefD := ⟨("depths", none), "depths", "depths", defArgs s_depths, defBody s_depths, defScope s_depths, [], []⟩
def d_parts_fault : He.DefD := ⟨("parts_fault", none), "parts_fault", "parts_fault", defArgs s_parts_fault, defBody s_parts_fault, defScope s_parts_fault, [], []⟩
def d_chars_fault : He.DefD := ⟨("chars_fault", none), "chars_fault", "chars_fault", defArgs s_chars_fault, defBody s_chars_fault, defScope s_chars_fault, [], []⟩
def d_feature_fault : He.DefD := ⟨("feature_fault", none), "feature_fault", "feature_fault", defArgs s_feature_fault, defBody s_feature_fault, defScope s_feature_fault, [], []⟩
def d_axis_fault : He.DefD := ⟨("axis_fault", none), "axis_fault", "axis_fault", defArgs s_axis_fault, defBody s_axis_fault, defScope s_axis_fault, [], []⟩
def d_region_fault : He.DefD := ⟨("region_fault", none), "region_fault", "region_fault", defArgs s_region_fault, defBody s_region_fault, defScope s_region_fault, [], []⟩
def d_Glyph_init : He.DefD := ⟨("Glyph", some "__init__"), "__init__", "Glyph.__init__", defArgs s_Glyph_init, defBody s_Glyph_init, defScope s_Glyph_init, [], [("parts", .adr (kwdAt ("Glyph", some "__init__") "parts")), ("anchors", .adr (kwdAt ("Glyph", some "__init__") "anchors")), ("mark", .bl false), ("deltas", .adr (kwdAt ("Glyph", some "__init__") "deltas")), ("hint", .adr (kwdAt ("Glyph", some "__init__") "hint"))]⟩
def d_copied_glyph : He.DefD := ⟨("copied_glyph", none), "copied_glyph", "copied_glyph", defArgs s_copied_glyph, defBody s_copied_glyph, defScope s_copied_glyph, [], []⟩
def d_Font_init : He.DefD := ⟨("Font", some "__init__"), "__init__", "Font.__init__", defArgs s_Font_init, defBody s_Font_init, defScope s_Font_init, [], [("chars", .adr (kwdAt ("Font", some "__init__") "chars")), ("lookups", .adr (kwdAt ("Font", some "__init__") "lookups")), ("features", .adr (kwdAt ("Font", some "__init__") "features")), ("axes", .adr (kwdAt ("Font", some "__init__") "axes")), ("regions", .adr (kwdAt ("Font", some "__init__") "regions")), ("functions", .adr (kwdAt ("Font", some "__init__") "functions")), ("presets", .adr (kwdAt ("Font", some "__init__") "presets"))]⟩
def d_Font_refuse : He.DefD := ⟨("Font", some "refuse"), "refuse", "Font.refuse", defArgs s_Font_refuse, defBody s_Font_refuse, defScope s_Font_refuse, [], []⟩
def d_Font_check_glyphs : He.DefD := ⟨("Font", some "check_glyphs"), "check_glyphs", "Font.check_glyphs", defArgs s_Font_check_glyphs, defBody s_Font_check_glyphs, defScope s_Font_check_glyphs, [], []⟩
def d_Font_check_lookups : He.DefD := ⟨("Font", some "check_lookups"), "check_lookups", "Font.check_lookups", defArgs s_Font_check_lookups, defBody s_Font_check_lookups, defScope s_Font_check_lookups, [], []⟩
def d_Font_check_rest : He.DefD := ⟨("Font", some "check_rest"), "check_rest", "Font.check_rest", defArgs s_Font_check_rest, defBody s_Font_check_rest, defScope s_Font_check_rest, [], []⟩
def d_glyph_parts : He.DefD := ⟨("glyph_parts", none), "glyph_parts", "glyph_parts", defArgs s_glyph_parts, defBody s_glyph_parts, defScope s_glyph_parts, [], []⟩
def d_font_parts : He.DefD := ⟨("font_parts", none), "font_parts", "font_parts", defArgs s_font_parts, defBody s_font_parts, defScope s_font_parts, [], []⟩
def d_same_font : He.DefD := ⟨("same_font", none), "same_font", "same_font", defArgs s_same_font, defBody s_same_font, defScope s_same_font, [], []⟩
def d_ratio : He.DefD := ⟨("ratio", none), "ratio", "ratio", defArgs s_ratio, defBody s_ratio, defScope s_ratio, [.int 1], []⟩
def d_add : He.DefD := ⟨("add", none), "add", "add", defArgs s_add, defBody s_add, defScope s_add, [], []⟩
def d_subtract : He.DefD := ⟨("subtract", none), "subtract", "subtract", defArgs s_subtract, defBody s_subtract, defScope s_subtract, [], []⟩
def d_multiply : He.DefD := ⟨("multiply", none), "multiply", "multiply", defArgs s_multiply, defBody s_multiply, defScope s_multiply, [], []⟩
def d_divide : He.DefD := ⟨("divide", none), "divide", "divide", defArgs s_divide, defBody s_divide, defScope s_divide, [], []⟩
def d_compare : He.DefD := ⟨("compare", none), "compare", "compare", defArgs s_compare, defBody s_compare, defScope s_compare, [], []⟩
def d_nearest : He.DefD := ⟨("nearest", none), "nearest", "nearest", defArgs s_nearest, defBody s_nearest, defScope s_nearest, [], []⟩
def d_share : He.DefD := ⟨("share", none), "share", "share", defArgs s_share, defBody s_share, defScope s_share, [], []⟩
def d_shares : He.DefD := ⟨("shares", none), "shares", "shares", defArgs s_shares, defBody s_shares, defScope s_shares, [], []⟩
def d_tent_factor : He.DefD := ⟨("tent_factor", none), "tent_factor", "tent_factor", defArgs s_tent_factor, defBody s_tent_factor, defScope s_tent_factor, [], []⟩
def d_factor : He.DefD := ⟨("factor", none), "factor", "factor", defArgs s_factor, defBody s_factor, defScope s_factor, [], []⟩
def d_Moves_init : He.DefD := ⟨("Moves", some "__init__"), "__init__", "Moves.__init__", defArgs s_Moves_init, defBody s_Moves_init, defScope s_Moves_init, [], []⟩
def d_Moves_has : He.DefD := ⟨("Moves", some "has"), "has", "Moves.has", defArgs s_Moves_has, defBody s_Moves_has, defScope s_Moves_has, [], []⟩
def d_Moves_by : He.DefD := ⟨("Moves", some "by"), "by", "Moves.by", defArgs s_Moves_by, defBody s_Moves_by, defScope s_Moves_by, [], []⟩
def d_moved_outline : He.DefD := ⟨("moved_outline", none), "moved_outline", "moved_outline", defArgs s_moved_outline, defBody s_moved_outline, defScope s_moved_outline, [], []⟩
def d_varied : He.DefD := ⟨("varied", none), "varied", "varied", defArgs s_varied, defBody s_varied, defScope s_varied, [], []⟩
def d_at_place : He.DefD := ⟨("at_place", none), "at_place", "at_place", defArgs s_at_place, defBody s_at_place, defScope s_at_place, [], []⟩
def d_OutOfRange_init : He.DefD := ⟨("OutOfRange", some "__init__"), "__init__", "OutOfRange.__init__", defArgs s_OutOfRange_init, defBody s_OutOfRange_init, defScope s_OutOfRange_init, [], []⟩
def d_law_deck : He.DefD := ⟨("_law_deck", none), "_law_deck", "_law_deck", defArgs s_law_deck, defBody s_law_deck, defScope s_law_deck, [], []⟩
def d_law_draw : He.DefD := ⟨("_law_draw", none), "_law_draw", "_law_draw", defArgs s_law_draw, defBody s_law_draw, defScope s_law_draw, [], []⟩
def d_law_point : He.DefD := ⟨("_law_point", none), "_law_point", "_law_point", defArgs s_law_point, defBody s_law_point, defScope s_law_point, [], []⟩
def d_law_outline : He.DefD := ⟨("_law_outline", none), "_law_outline", "_law_outline", defArgs s_law_outline, defBody s_law_outline, defScope s_law_outline, [], []⟩
def d_law_axes : He.DefD := ⟨("_law_axes", none), "_law_axes", "_law_axes", defArgs s_law_axes, defBody s_law_axes, defScope s_law_axes, [], []⟩
def d_law_tent : He.DefD := ⟨("_law_tent", none), "_law_tent", "_law_tent", defArgs s_law_tent, defBody s_law_tent, defScope s_law_tent, [], []⟩
def d_law_place : He.DefD := ⟨("_law_place", none), "_law_place", "_law_place", defArgs s_law_place, defBody s_law_place, defScope s_law_place, [], []⟩
def d_law_deltas : He.DefD := ⟨("_law_deltas", none), "_law_deltas", "_law_deltas", defArgs s_law_deltas, defBody s_law_deltas, defScope s_law_deltas, [], []⟩
def d_law_font_tent : He.DefD := ⟨("_law_font_tent", none), "_law_font_tent", "_law_font_tent", defArgs s_law_font_tent, defBody s_law_font_tent, defScope s_law_font_tent, [], []⟩
def d_law_styled : He.DefD := ⟨("_law_styled", none), "_law_styled", "_law_styled", defArgs s_law_styled, defBody s_law_styled, defScope s_law_styled, [], []⟩
def d_law_styled_font : He.DefD := ⟨("_law_styled_font", none), "_law_styled_font", "_law_styled_font", defArgs s_law_styled_font, defBody s_law_styled_font, defScope s_law_styled_font, [], []⟩
def d_law_instance : He.DefD := ⟨("_law_instance", none), "_law_instance", "_law_instance", defArgs s_law_instance, defBody s_law_instance, defScope s_law_instance, [], []⟩
def d_law : He.DefD := ⟨("law", none), "law", "law", defArgs s_law, defBody s_law, defScope s_law, [], []⟩
def fn0 : List He.DefD := [d_count_points, d_is_near, d_is_proper, d_is_coordinate, d_hint_fault, d_glyph_fault, d_depths, d_parts_fault, d_chars_fault, d_feature_fault, d_axis_fault, d_region_fault, d_Glyph_init, d_copied_glyph, d_Font_init, d_Font_refuse, d_Font_check_glyphs, d_Font_check_lookups, d_Font_check_rest, d_glyph_parts]
def fn1 : List He.DefD := [d_font_parts, d_same_font, d_ratio, d_add, d_subtract, d_multiply, d_divide, d_compare, d_nearest, d_share, d_shares, d_tent_factor, d_factor, d_Moves_init, d_Moves_has, d_Moves_by, d_moved_outline, d_varied, d_at_place, d_OutOfRange_init]
def fn2 : List He.DefD := [d_law_deck, d_law_draw, d_law_point, d_law_outline, d_law_axes, d_law_tent, d_law_place, d_law_deltas, d_law_font_tent, d_law_styled, d_law_styled_font, d_law_instance, d_law]
def fn : List He.DefD := fn0 ++ fn1 ++ fn2
def fa0 : List He.Fa := [.glo "count_points", .glo "is_near", .glo "is_proper", .glo "is_coordinate", .glo "hint_fault", .glo "glyph_fault", .glo "depths", .glo "parts_fault", .glo "chars_fault", .glo "feature_fault", .glo "axis_fault", .glo "region_fault", .glo "copied_glyph", .glo "glyph_parts", .glo "font_parts", .glo "same_font", .glo "ratio", .glo "add", .glo "subtract", .glo "multiply", .glo "divide", .glo "compare", .glo "nearest", .glo "share", .glo "shares", .glo "tent_factor", .glo "factor", .glo "moved_outline", .glo "varied", .glo "at_place"]
def fa1 : List He.Fa := [.glo "_law_deck", .glo "_law_draw", .glo "_law_point", .glo "_law_outline", .glo "_law_axes", .glo "_law_tent", .glo "_law_place", .glo "_law_deltas", .glo "_law_font_tent", .glo "_law_styled", .glo "_law_styled_font", .glo "_law_instance", .glo "law", .glo "Glyph", .glo "Font", .glo "Moves", .glo "OutOfRange", .glo "WHOLE", .glo "NOTHING", .free "len", .free "sum", .free "all", .free "range", .free "zip", .free "enumerate", .free "list", .free "max", .free "any", .free "abs", .free "int"]
def fa2 : List He.Fa := [.free "sorted", .int "MOST_CONTOURS" 40, .int "MOST_POINTS" 200, .int "FARTHEST" 16384, .int "MOST_ADVANCE" 16384, .int "MOST_NUMBER" 2147483647, .int "MOST_DEPTH" 4, .int "MOST_CODE" 1114111, .int "MOST_GLYPHS" 60, .int "MOST_LOOKUPS" 20, .int "MOST_FEATURES" 12, .int "MOST_AXES" 3, .int "MOST_REGIONS" 8, .int "MOST_FUNCTIONS" 12, .int "MOST_VALUES" 32, .cls "Glyph", .mkr "Glyph", .noat "Glyph" "advance", .noat "Glyph" "outline", .noat "Glyph" "parts", .noat "Glyph" "anchors", .noat "Glyph" "mark", .noat "Glyph" "deltas", .noat "Glyph" "hint", .cls "Font", .mkr "Font", .noat "Font" "unit", .noat "Font" "glyphs", .noat "Font" "chars", .noat "Font" "lookups"]
def fa3 : List He.Fa := [.noat "Font" "features", .noat "Font" "axes", .noat "Font" "regions", .noat "Font" "functions", .noat "Font" "presets", .cls "Moves", .mkr "Moves", .noat "Moves" "sums", .meth "Font" "refuse", .meth "Font" "check_glyphs", .meth "Font" "check_lookups", .meth "Font" "check_rest", .meth "Moves" "has", .meth "Moves" "by", .exm "OutOfRange" "OutOfRange" true]
def fa : List He.Fa := fa0 ++ fa1 ++ fa2 ++ fa3
/-- an empty tuple stands at a -/
def etB (K : PySem.W.Frag) (a : Addr) : Bool := match K.lookup a with
  | some ⟨.type c, _, .seq its _, _⟩ => decide (c = "tuple") && decide (its.toList = [])
  | _ => false
theorem etB_ok {K : PySem.W.Frag} {a : Addr} (h : etB K a = true) (H : Hp) : SqT K H a [] := by
  unfold etB at h
  cases q : K.lookup a with
  | none =>
    rw [q] at h
    cases h
  | some o =>
    obtain ⟨oc, od, dt, sl⟩ := o
    rw [q] at h
    cases oc with
    | type c =>
      cases dt with
      | seq its n =>
        obtain ⟨h1, h2⟩ := He.ba h
        have e := of_decide_eq_true h2
        have e0 : its = #[] := Array.toList_eq_nil_iff.mp e
        subst e0
        exact Or.inr ⟨_, #[], n, q, congrArg Value.type (of_decide_eq_true h1), rfl, Nat.zero_le _, .nil⟩
      | _ => cases h
    | _ => cases dt <;> cases h
/-- the class of an own error over ValueError's line -/
def oexB (K : PySem.W.Frag) (C : Addr) : Bool := (match K.lookup C with
  | some ⟨.type t, _, .cls cd, sl⟩ => decide (t = "type") && (match cd.mro, sl.toList with
    | .ref C' :: bm, [_, _, _, _, some (.builtin n), _] => decide (C' = C) && (decide (n = "ValueError.__new__") && (!cd.hasDel && (cd.hasDict && PySem.HandSPX.refsVE bm)))
    | _, _ => false)
  | _ => false) && (He.eqO (PySem.W.findIn K (.ref C) "__setattr__") (some (some (.builtin "object.__setattr__"))) && (decide (PySem.W.subIn K (.ref C) (.type "BaseException") = some true) &&
    (decide (PySem.W.typeIn K (.ref C) = some (.type "type")) && PySem.W.keepIn K (.ref C))))
theorem oexB_ok {K : PySem.W.Frag} {C : Addr} (h : oexB K C = true) : OexC K C := by
  obtain ⟨h1, h2⟩ := He.ba h
  obtain ⟨h3, h4⟩ := He.ba h2
  obtain ⟨h5, h6⟩ := He.ba h4
  obtain ⟨h7, h8⟩ := He.ba h6
  refine ⟨?_, He.eqO_ok h3, of_decide_eq_true h5, of_decide_eq_true h7, h8⟩
  cases q : K.lookup C with
  | none =>
    rw [q] at h1
    cases h1
  | some o =>
    obtain ⟨oc, dd, dt, sl⟩ := o
    rw [q] at h1
    cases oc with
    | type t =>
      cases dt with
      | cls cd =>
        obtain ⟨g1, g2⟩ := He.ba h1
        obtain ⟨nm, bs, mro, ns, qn, hd, sn, sub, ab, col, del⟩ := cd
        dsimp only at g2
        split at g2
        · rename_i C' bm k0 k1 k2 k3 n k5 hs
          obtain ⟨x1, x2⟩ := He.ba g2
          obtain ⟨x3, x4⟩ := He.ba x2
          obtain ⟨x5, x6⟩ := He.ba x4
          obtain ⟨x7, x8⟩ := He.ba x6
          have e1 := of_decide_eq_true x1
          have e3 := of_decide_eq_true x3
          have e0 := of_decide_eq_true g1
          have e5 : del = false := by simpa using x5
          have es : sl = #[k0, k1, k2, k3, some (.builtin n), k5] := by
            rw [← Array.toArray_toList (xs := sl), hs]
          subst e1 e3 e0 e5 es x7
          exact ⟨_, _, _, _, bm, _, _, _, _, _, _, _, _, _, _, rfl, x8⟩
        · cases g2
      | _ => cases h1
    | _ => cases dt <;> cases h1
/-- the further facts -/
def exB (K : PySem.W.Frag) : Bool := He.eqO (PySem.W.nsIn K mainGlobals "gcd") (some (some (.builtin "math.gcd"))) && (He.tupB K "WHOLE" [.int 1, .int 1] && (He.tupB K "NOTHING" [.int 0, .int 1] && (oexB K (He.ga K "OutOfRange") &&
  (He.eqO (PySem.W.findIn K (.ref (He.ga K "OutOfRange")) "__init__") (some (some (.ref (He.ma K (He.ga K "OutOfRange") "__init__")))) && (decide (PySem.W.typeIn K (.ref (He.ma K (He.ga K "OutOfRange") "__init__")) = some (.type "function")) &&
  (He.eqO (PySem.W.findIn K (.ref (He.ga K "OutOfRange")) "number") (some none) && ([(("Glyph", some "__init__"), "parts"), (("Glyph", some "__init__"), "anchors"), (("Glyph", some "__init__"), "deltas"), (("Glyph", some "__init__"), "hint"), (("Font", some "__init__"), "chars"), (("Font", some "__init__"), "lookups"), (("Font", some "__init__"), "features"), (("Font", some "__init__"), "axes"), (("Font", some "__init__"), "regions"), (("Font", some "__init__"), "functions"), (("Font", some "__init__"), "presets")] : List ((Str × Option Str) × Str)).all fun q => etB K (kwdAt q.1 q.2 K)))))))
/-! the Hook -/
abbrev AlF : Type := He.AlD × Bool
def obsF (n : Nat) (g : Addr → Option Obj) : AlF := (He.obsD fa fn (He.frG g (He.asD g n)), exB (He.frG g (He.asD g n)))
def Says (K : PySem.W.Frag) : Prop := He.SaysD fa fn K ∧ exB K = true
def hookF (n : Nat) : PySem.W.Hook where
  α := AlF
  obs := fun s => obsF n s.heap.get?
  val := fun _ => (He.valD fn, true)
  says := fun _ h => ∃ K : PySem.W.Frag, K.In h ∧ Says K
  of := fun _ _ e => ⟨_, He.frG_in, congrArg (fun z : AlF => z.1) e, congrArg (fun z : AlF => z.2) e⟩
  keeps := fun _ _ _ ⟨K, hK, c⟩ k => ⟨K, PySem.W.Frag.In.keeps hK k, c⟩
theorem obsF_eq {n : Nat} {g : Addr → Option Obj} {s : Shared} (h : ∀ a, g a = s.heap.get? a) : obsF n g = (hookF n).obs s := by
  have e : g = s.heap.get? := funext h
  rw [e] <;> rfl
/-- the facts, over a heap whose globals are mg -/
structure Txt (K : PySem.W.Frag) (mg : Str → Option Value) : Prop where
  said : Says K
  gl : ∀ (x : Str) (v : Option Value), PySem.W.nsIn K mainGlobals x = some v → mg x = v
section
variable {K : PySem.W.Frag} {mg : Str → Option Value} (T : Txt K mg)
include T
theorem Txt.f_count_points : ∃ fd, FunD K "count_points" "count_points" (defArgs s_count_points) (defBody s_count_points) (defScope s_count_points) (He.DefD.dvs K d_count_points) (He.DefD.kws K d_count_points) (He.fAd K ("count_points", none)) fd := T.said.1.def_ 0 (d := d_count_points) rfl
theorem Txt.f_is_near : ∃ fd, FunD K "is_near" "is_near" (defArgs s_is_near) (defBody s_is_near) (defScope s_is_near) (He.DefD.dvs K d_is_near) (He.DefD.kws K d_is_near) (He.fAd K ("is_near", none)) fd := T.said.1.def_ 1 (d := d_is_near) rfl
theorem Txt.f_is_proper : ∃ fd, FunD K "is_proper" "is_proper" (defArgs s_is_proper) (defBody s_is_proper) (defScope s_is_proper) (He.DefD.dvs K d_is_proper) (He.DefD.kws K d_is_proper) (He.fAd K ("is_proper", none)) fd := T.said.1.def_ 2 (d := d_is_proper) rfl
theorem Txt.f_is_coordinate : ∃ fd, FunD K "is_coordinate" "is_coordinate" (defArgs s_is_coordinate) (defBody s_is_coordinate) (defScope s_is_coordinate) (He.DefD.dvs K d_is_coordinate) (He.DefD.kws K d_is_coordinate) (He.fAd K ("is_coordinate", none)) fd := T.said.1.def_ 3 (d := d_is_coordinate) rfl
theorem Txt.f_hint_fault : ∃ fd, FunD K "hint_fault" "hint_fault" (defArgs s_hint_fault) (defBody s_hint_fault) (defScope s_hint_fault) (He.DefD.dvs K d_hint_fault) (He.DefD.kws K d_hint_fault) (He.fAd K ("hint_fault", none)) fd := T.said.1.def_ 4 (d := d_hint_fault) rfl
theorem Txt.f_glyph_fault : ∃ fd, FunD K "glyph_fault" "glyph_fault" (defArgs s_glyph_fault) (defBody s_glyph_fault) (defScope s_glyph_fault) (He.DefD.dvs K d_glyph_fault) (He.DefD.kws K d_glyph_fault) (He.fAd K ("glyph_fault", none)) fd := T.said.1.def_ 5 (d := d_glyph_fault) rfl
theorem Txt.f_depths : ∃ fd, FunD K "depths" "depths" (defArgs s_depths) (defBody s_depths) (defScope s_depths) (He.DefD.dvs K d_depths) (He.DefD.kws K d_depths) (He.fAd K ("depths", none)) fd := T.said.1.def_ 6 (d := d_depths) rfl
theorem Txt.f_parts_fault : ∃ fd, FunD K "parts_fault" "parts_fault" (defArgs s_parts_fault) (defBody s_parts_fault) (defScope s_parts_fault) (He.DefD.dvs K d_parts_fault) (He.DefD.kws K d_parts_fault) (He.fAd K ("parts_fault", none)) fd := T.said.1.def_ 7 (d := d_parts_fault) rfl
theorem Txt.f_chars_fault : ∃ fd, FunD K "chars_fault" "chars_fault" (defArgs s_chars_fault) (defBody s_chars_fault) (defScope s_chars_fault) (He.DefD.dvs K d_chars_fault) (He.DefD.kws K d_chars_fault) (He.fAd K ("chars_fault", none)) fd := T.said.1.def_ 8 (d := d_chars_fault) rfl
theorem Txt.f_feature_fault : ∃ fd, FunD K "feature_fault" "feature_fault" (defArgs s_feature_fault) (defBody s_feature_fault) (defScope s_feature_fault) (He.DefD.dvs K d_feature_fault) (He.DefD.kws K d_feature_fault) (He.fAd K ("feature_fault", none)) fd := T.said.1.def_ 9 (d := d_feature_fault) rfl
theorem Txt.f_axis_fault : ∃ fd, FunD K "axis_fault" "axis_fault" (defArgs s_axis_fault) (defBody s_axis_fault) (defScope s_axis_fault) (He.DefD.dvs K d_axis_fault) (He.DefD.kws K d_axis_fault) (He.fAd K ("axis_fault", none)) fd := T.said.1.def_ 10 (d := d_axis_fault) rfl
theorem Txt.f_region_fault : ∃ fd, FunD K "region_fault" "region_fault" (defArgs s_region_fault) (defBody s_region_fault) (defScope s_region_fault) (He.DefD.dvs K d_region_fault) (He.DefD.kws K d_region_fault) (He.fAd K ("region_fault", none)) fd := T.said.1.def_ 11 (d := d_region_fault) rfl
theorem Txt.f_Glyph_init : ∃ fd, FunD K "__init__" "Glyph.__init__" (defArgs s_Glyph_init) (defBody s_Glyph_init) (defScope s_Glyph_init) (He.DefD.dvs K d_Glyph_init) (He.DefD.kws K d_Glyph_init) (He.fAd K ("Glyph", some "__init__")) fd := T.said.1.def_ 12 (d := d_Glyph_init) rfl
theorem Txt.f_copied_glyph : ∃ fd, FunD K "copied_glyph" "copied_glyph" (defArgs s_copied_glyph) (defBody s_copied_glyph) (defScope s_copied_glyph) (He.DefD.dvs K d_copied_glyph) (He.DefD.kws K d_copied_glyph) (He.fAd K ("copied_glyph", none)) fd := T.said.1.def_ 13 (d := d_copied_glyph) rfl
theorem Txt.f_Font_init : ∃ fd, FunD K "__init__" "Font.__init__" (defArgs s_Font_init) (defBody s_Font_init) (defScope s_Font_init) (He.DefD.dvs K d_Font_init) (He.DefD.kws K d_Font_init) (He.fAd K ("Font", some "__init__")) fd := T.said.1.def_ 14 (d := d_Font_init) rfl
theorem Txt.f_Font_refuse : ∃ fd, FunD K "refuse" "Font.refuse" (defArgs s_Font_refuse) (defBody s_Font_refuse) (defScope s_Font_refuse) (He.DefD.dvs K d_Font_refuse) (He.DefD.kws K d_Font_refuse) (He.fAd K ("Font", some "refuse")) fd := T.said.1.def_ 15 (d := d_Font_refuse) rfl
theorem Txt.f_Font_check_glyphs : ∃ fd, FunD K "check_glyphs" "Font.check_glyphs" (defArgs s_Font_check_glyphs) (defBody s_Font_check_glyphs) (defScope s_Font_check_glyphs) (He.DefD.dvs K d_Font_check_glyphs) (He.DefD.kws K d_Font_check_glyphs) (He.fAd K ("Font", some "check_glyphs")) fd := T.said.1.def_ 16 (d := d_Font_check_glyphs) rfl
theorem Txt.f_Font_check_lookups : ∃ fd, FunD K "check_lookups" "Font.check_lookups" (defArgs s_Font_check_lookups) (defBody s_Font_check_lookups) (defScope s_Font_check_lookups) (He.DefD.dvs K d_Font_check_lookups) (He.DefD.kws K d_Font_check_lookups) (He.fAd K ("Font", some "check_lookups")) fd := T.said.1.def_ 17 (d := d_Font_check_lookups) rfl
theorem Txt.f_Font_check_rest : ∃ fd, FunD K "check_rest" "Font.check_rest" (defArgs s_Font_check_rest) (defBody s_Font_check_rest) (defScope s_Font_check_rest) (He.DefD.dvs K d_Font_check_rest) (He.DefD.kws K d_Font_check_rest) (He.fAd K ("Font", some "check_rest")) fd := T.said.1.def_ 18 (d := d_Font_check_rest) rfl
theorem Txt.f_glyph_parts : ∃ fd, FunD K "glyph_parts" "glyph_parts" (defArgs s_glyph_parts) (defBody s_glyph_parts) (defScope s_glyph_parts) (He.DefD.dvs K d_glyph_parts) (He.DefD.kws K d_glyph_parts) (He.fAd K ("glyph_parts", none)) fd := T.said.1.def_ 19 (d := d_glyph_parts) rfl
theorem Txt.f_font_parts : ∃ fd, FunD K "font_parts" "font_parts" (defArgs s_font_parts) (defBody s_font_parts) (defScope s_font_parts) (He.DefD.dvs K d_font_parts) (He.DefD.kws K d_font_parts) (He.fAd K ("font_parts", none)) fd := T.said.1.def_ 20 (d := d_font_parts) rfl
theorem Txt.f_same_font : ∃ fd, FunD K "same_font" "same_font" (defArgs s_same_font) (defBody s_same_font) (defScope s_same_font) (He.DefD.dvs K d_same_font) (He.DefD.kws K d_same_font) (He.fAd K ("same_font", none)) fd := T.said.1.def_ 21 (d := d_same_font) rfl
theorem Txt.f_ratio : ∃ fd, FunD K "ratio" "ratio" (defArgs s_ratio) (defBody s_ratio) (defScope s_ratio) (He.DefD.dvs K d_ratio) (He.DefD.kws K d_ratio) (He.fAd K ("ratio", none)) fd := T.said.1.def_ 22 (d := d_ratio) rfl
theorem Txt.f_add : ∃ fd, FunD K "add" "add" (defArgs s_add) (defBody s_add) (defScope s_add) (He.DefD.dvs K d_add) (He.DefD.kws K d_add) (He.fAd K ("add", none)) fd := T.said.1.def_ 23 (d := d_add) rfl
theorem Txt.f_subtract : ∃ fd, FunD K "subtract" "subtract" (defArgs s_subtract) (defBody s_subtract) (defScope s_subtract) (He.DefD.dvs K d_subtract) (He.DefD.kws K d_subtract) (He.fAd K ("subtract", none)) fd := T.said.1.def_ 24 (d := d_subtract) rfl
theorem Txt.f_multiply : ∃ fd, FunD K "multiply" "multiply" (defArgs s_multiply) (defBody s_multiply) (defScope s_multiply) (He.DefD.dvs K d_multiply) (He.DefD.kws K d_multiply) (He.fAd K ("multiply", none)) fd := T.said.1.def_ 25 (d := d_multiply) rfl
theorem Txt.f_divide : ∃ fd, FunD K "divide" "divide" (defArgs s_divide) (defBody s_divide) (defScope s_divide) (He.DefD.dvs K d_divide) (He.DefD.kws K d_divide) (He.fAd K ("divide", none)) fd := T.said.1.def_ 26 (d := d_divide) rfl
theorem Txt.f_compare : ∃ fd, FunD K "compare" "compare" (defArgs s_compare) (defBody s_compare) (defScope s_compare) (He.DefD.dvs K d_compare) (He.DefD.kws K d_compare) (He.fAd K ("compare", none)) fd := T.said.1.def_ 27 (d := d_compare) rfl
theorem Txt.f_nearest : ∃ fd, FunD K "nearest" "nearest" (defArgs s_nearest) (defBody s_nearest) (defScope s_nearest) (He.DefD.dvs K d_nearest) (He.DefD.kws K d_nearest) (He.fAd K ("nearest", none)) fd := T.said.1.def_ 28 (d := d_nearest) rfl
theorem Txt.f_share : ∃ fd, FunD K "share" "share" (defArgs s_share) (defBody s_share) (defScope s_share) (He.DefD.dvs K d_share) (He.DefD.kws K d_share) (He.fAd K ("share", none)) fd := T.said.1.def_ 29 (d := d_share) rfl
theorem Txt.f_shares : ∃ fd, FunD K "shares" "shares" (defArgs s_shares) (defBody s_shares) (defScope s_shares) (He.DefD.dvs K d_shares) (He.DefD.kws K d_shares) (He.fAd K ("shares", none)) fd := T.said.1.def_ 30 (d := d_shares) rfl
theorem Txt.f_tent_factor : ∃ fd, FunD K "tent_factor" "tent_factor" (defArgs s_tent_factor) (defBody s_tent_factor) (defScope s_tent_factor) (He.DefD.dvs K d_tent_factor) (He.DefD.kws K d_tent_factor) (He.fAd K ("tent_factor", none)) fd := T.said.1.def_ 31 (d := d_tent_factor) rfl
theorem Txt.f_factor : ∃ fd, FunD K "factor" "factor" (defArgs s_factor) (defBody s_factor) (defScope s_factor) (He.DefD.dvs K d_factor) (He.DefD.kws K d_factor) (He.fAd K ("factor", none)) fd := T.said.1.def_ 32 (d := d_factor) rfl
theorem Txt.f_Moves_init : ∃ fd, FunD K "__init__" "Moves.__init__" (defArgs s_Moves_init) (defBody s_Moves_init) (defScope s_Moves_init) (He.DefD.dvs K d_Moves_init) (He.DefD.kws K d_Moves_init) (He.fAd K ("Moves", some "__init__")) fd := T.said.1.def_ 33 (d := d_Moves_init) rfl
theorem Txt.f_Moves_has : ∃ fd, FunD K "has" "Moves.has" (defArgs s_Moves_has) (defBody s_Moves_has) (defScope s_Moves_has) (He.DefD.dvs K d_Moves_has) (He.DefD.kws K d_Moves_has) (He.fAd K ("Moves", some "has")) fd := T.said.1.def_ 34 (d := d_Moves_has) rfl
theorem Txt.f_Moves_by : ∃ fd, FunD K "by" "Moves.by" (defArgs s_Moves_by) (defBody s_Moves_by) (defScope s_Moves_by) (He.DefD.dvs K d_Moves_by) (He.DefD.kws K d_Moves_by) (He.fAd K ("Moves", some "by")) fd := T.said.1.def_ 35 (d := d_Moves_by) rfl
theorem Txt.f_moved_outline : ∃ fd, FunD K "moved_outline" "moved_outline" (defArgs s_moved_outline) (defBody s_moved_outline) (defScope s_moved_outline) (He.DefD.dvs K d_moved_outline) (He.DefD.kws K d_moved_outline) (He.fAd K ("moved_outline", none)) fd := T.said.1.def_ 36 (d := d_moved_outline) rfl
theorem Txt.f_varied : ∃ fd, FunD K "varied" "varied" (defArgs s_varied) (defBody s_varied) (defScope s_varied) (He.DefD.dvs K d_varied) (He.DefD.kws K d_varied) (He.fAd K ("varied", none)) fd := T.said.1.def_ 37 (d := d_varied) rfl
theorem Txt.f_at_place : ∃ fd, FunD K "at_place" "at_place" (defArgs s_at_place) (defBody s_at_place) (defScope s_at_place) (He.DefD.dvs K d_at_place) (He.DefD.kws K d_at_place) (He.fAd K ("at_place", none)) fd := T.said.1.def_ 38 (d := d_at_place) rfl
theorem Txt.f_OutOfRange_init : ∃ fd, FunD K "__init__" "OutOfRange.__init__" (defArgs s_OutOfRange_init) (defBody s_OutOfRange_init) (defScope s_OutOfRange_init) (He.DefD.dvs K d_OutOfRange_init) (He.DefD.kws K d_OutOfRange_init) (He.fAd K ("OutOfRange", some "__init__")) fd := T.said.1.def_ 39 (d := d_OutOfRange_init) rfl
theorem Txt.f_law_deck : ∃ fd, FunD K "_law_deck" "_law_deck" (defArgs s_law_deck) (defBody s_law_deck) (defScope s_law_deck) (He.DefD.dvs K d_law_deck) (He.DefD.kws K d_law_deck) (He.fAd K ("_law_deck", none)) fd := T.said.1.def_ 40 (d := d_law_deck) rfl
theorem Txt.f_law_draw : ∃ fd, FunD K "_law_draw" "_law_draw" (defArgs s_law_draw) (defBody s_law_draw) (defScope s_law_draw) (He.DefD.dvs K d_law_draw) (He.DefD.kws K d_law_draw) (He.fAd K ("_law_draw", none)) fd := T.said.1.def_ 41 (d := d_law_draw) rfl
theorem Txt.f_law_point : ∃ fd, FunD K "_law_point" "_law_point" (defArgs s_law_point) (defBody s_law_point) (defScope s_law_point) (He.DefD.dvs K d_law_point) (He.DefD.kws K d_law_point) (He.fAd K ("_law_point", none)) fd := T.said.1.def_ 42 (d := d_law_point) rfl
theorem Txt.f_law_outline : ∃ fd, FunD K "_law_outline" "_law_outline" (defArgs s_law_outline) (defBody s_law_outline) (defScope s_law_outline) (He.DefD.dvs K d_law_outline) (He.DefD.kws K d_law_outline) (He.fAd K ("_law_outline", none)) fd := T.said.1.def_ 43 (d := d_law_outline) rfl
theorem Txt.f_law_axes : ∃ fd, FunD K "_law_axes" "_law_axes" (defArgs s_law_axes) (defBody s_law_axes) (defScope s_law_axes) (He.DefD.dvs K d_law_axes) (He.DefD.kws K d_law_axes) (He.fAd K ("_law_axes", none)) fd := T.said.1.def_ 44 (d := d_law_axes) rfl
theorem Txt.f_law_tent : ∃ fd, FunD K "_law_tent" "_law_tent" (defArgs s_law_tent) (defBody s_law_tent) (defScope s_law_tent) (He.DefD.dvs K d_law_tent) (He.DefD.kws K d_law_tent) (He.fAd K ("_law_tent", none)) fd := T.said.1.def_ 45 (d := d_law_tent) rfl
theorem Txt.f_law_place : ∃ fd, FunD K "_law_place" "_law_place" (defArgs s_law_place) (defBody s_law_place) (defScope s_law_place) (He.DefD.dvs K d_law_place) (He.DefD.kws K d_law_place) (He.fAd K ("_law_place", none)) fd := T.said.1.def_ 46 (d := d_law_place) rfl
theorem Txt.f_law_deltas : ∃ fd, FunD K "_law_deltas" "_law_deltas" (defArgs s_law_deltas) (defBody s_law_deltas) (defScope s_law_deltas) (He.DefD.dvs K d_law_deltas) (He.DefD.kws K d_law_deltas) (He.fAd K ("_law_deltas", none)) fd := T.said.1.def_ 47 (d := d_law_deltas) rfl
theorem Txt.f_law_font_tent : ∃ fd, FunD K "_law_font_tent" "_law_font_tent" (defArgs s_law_font_tent) (defBody s_law_font_tent) (defScope s_law_font_tent) (He.DefD.dvs K d_law_font_tent) (He.DefD.kws K d_law_font_tent) (He.fAd K ("_law_font_tent", none)) fd := T.said.1.def_ 48 (d := d_law_font_tent) rfl
theorem Txt.f_law_styled : ∃ fd, FunD K "_law_styled" "_law_styled" (defArgs s_law_styled) (defBody s_law_styled) (defScope s_law_styled) (He.DefD.dvs K d_law_styled) (He.DefD.kws K d_law_styled) (He.fAd K ("_law_styled", none)) fd := T.said.1.def_ 49 (d := d_law_styled) rfl
theorem Txt.f_law_styled_font : ∃ fd, FunD K "_law_styled_font" "_law_styled_font" (defArgs s_law_styled_font) (defBody s_law_styled_font) (defScope s_law_styled_font) (He.DefD.dvs K d_law_styled_font) (He.DefD.kws K d_law_styled_font) (He.fAd K ("_law_styled_font", none)) fd := T.said.1.def_ 50 (d := d_law_styled_font) rfl
theorem Txt.f_law_instance : ∃ fd, FunD K "_law_instance" "_law_instance" (defArgs s_law_instance) (defBody s_law_instance) (defScope s_law_instance) (He.DefD.dvs K d_law_instance) (He.DefD.kws K d_law_instance) (He.fAd K ("_law_instance", none)) fd := T.said.1.def_ 51 (d := d_law_instance) rfl
theorem Txt.f_law : ∃ fd, FunD K "law" "law" (defArgs s_law) (defBody s_law) (defScope s_law) (He.DefD.dvs K d_law) (He.DefD.kws K d_law) (He.fAd K ("law", none)) fd := T.said.1.def_ 52 (d := d_law) rfl
theorem Txt.g_count_points : mg "count_points" = some (.ref (He.ga K "count_points")) := T.gl _ _ (He.eqO_ok (T.said.1.fact 0 (f := .glo "count_points") rfl))
theorem Txt.g_is_near : mg "is_near" = some (.ref (He.ga K "is_near")) := T.gl _ _ (He.eqO_ok (T.said.1.fact 1 (f := .glo "is_near") rfl))
theorem Txt.g_is_proper : mg "is_proper" = some (.ref (He.ga K "is_proper")) := T.gl _ _ (He.eqO_ok (T.said.1.fact 2 (f := .glo "is_proper") rfl))
theorem Txt.g_is_coordinate : mg "is_coordinate" = some (.ref (He.ga K "is_coordinate")) := T.gl _ _ (He.eqO_ok (T.said.1.fact 3 (f := .glo "is_coordinate") rfl))
theorem Txt.g_hint_fault : mg "hint_fault" = some (.ref (He.ga K "hint_fault")) := T.gl _ _ (He.eqO_ok (T.said.1.fact 4 (f := .glo "hint_fault") rfl))
theorem Txt.g_glyph_fault : mg "glyph_fault" = some (.ref (He.ga K "glyph_fault")) := T.gl _ _ (He.eqO_ok (T.said.1.fact 5 (f := .glo "glyph_fault") rfl))
theorem Txt.g_depths : mg "depths" = some (.ref (He.ga K "depths")) := T.gl _ _ (He.eqO_ok (T.said.1.fact 6 (f := .glo "depths") rfl))
theorem Txt.g_parts_fault : mg "parts_fault" = some (.ref (He.ga K "parts_fault")) := T.gl _ _ (He.eqO_ok (T.said.1.fact 7 (f := .glo "parts_fault") rfl))
theorem Txt.g_chars_fault : mg "chars_fault" = some (.ref (He.ga K "chars_fault")) := T.gl _ _ (He.eqO_ok (T.said.1.fact 8 (f := .glo "chars_fault") rfl))
theorem Txt.g_feature_fault : mg "feature_fault" = some (.ref (He.ga K "feature_fault")) := T.gl _ _ (He.eqO_ok (T.said.1.fact 9 (f := .glo "feature_fault") rfl))
theorem Txt.g_axis_fault : mg "axis_fault" = some (.ref (He.ga K "axis_fault")) := T.gl _ _ (He.eqO_ok (T.said.1.fact 10 (f := .glo "axis_fault") rfl))
theorem Txt.g_region_fault : mg "region_fault" = some (.ref (He.ga K "region_fault")) := T.gl _ _ (He.eqO_ok (T.said.1.fact 11 (f := .glo "region_fault") rfl))
theorem Txt.g_copied_glyph : mg "copied_glyph" = some (.ref (He.ga K "copied_glyph")) := T.gl _ _ (He.eqO_ok (T.said.1.fact 12 (f := .glo "copied_glyph") rfl))
theorem Txt.g_glyph_parts : mg "glyph_parts" = some (.ref (He.ga K "glyph_parts")) := T.gl _ _ (He.eqO_ok (T.said.1.fact 13 (f := .glo "glyph_parts") rfl))
theorem Txt.g_font_parts : mg "font_parts" = some (.ref (He.ga K "font_parts")) := T.gl _ _ (He.eqO_ok (T.said.1.fact 14 (f := .glo "font_parts") rfl))
theorem Txt.g_same_font : mg "same_font" = some (.ref (He.ga K "same_font")) := T.gl _ _ (He.eqO_ok (T.said.1.fact 15 (f := .glo "same_font") rfl))
theorem Txt.g_ratio : mg "ratio" = some (.ref (He.ga K "ratio")) := T.gl _ _ (He.eqO_ok (T.said.1.fact 16 (f := .glo "ratio") rfl))
theorem Txt.g_add : mg "add" = some (.ref (He.ga K "add")) := T.gl _ _ (He.eqO_ok (T.said.1.fact 17 (f := .glo "add") rfl))
theorem Txt.g_subtract : mg "subtract" = some (.ref (He.ga K "subtract")) := T.gl _ _ (He.eqO_ok (T.said.1.fact 18 (f := .glo "subtract") rfl))
theorem Txt.g_multiply : mg "multiply" = some (.ref (He.ga K "multiply")) := T.gl _ _ (He.eqO_ok (T.said.1.fact 19 (f := .glo "multiply") rfl))
theorem Txt.g_divide : mg "divide" = some (.ref (He.ga K "divide")) := T.gl _ _ (He.eqO_ok (T.said.1.fact 20 (f := .glo "divide") rfl))
theorem Txt.g_compare : mg "compare" = some (.ref (He.ga K "compare")) := T.gl _ _ (He.eqO_ok (T.said.1.fact 21 (f := .glo "compare") rfl))
theorem Txt.g_nearest : mg "nearest" = some (.ref (He.ga K "nearest")) := T.gl _ _ (He.eqO_ok (T.said.1.fact 22 (f := .glo "nearest") rfl))
theorem Txt.g_share : mg "share" = some (.ref (He.ga K "share")) := T.gl _ _ (He.eqO_ok (T.said.1.fact 23 (f := .glo "share") rfl))
theorem Txt.g_shares : mg "shares" = some (.ref (He.ga K "shares")) := T.gl _ _ (He.eqO_ok (T.said.1.fact 24 (f := .glo "shares") rfl))
theorem Txt.g_tent_factor : mg "tent_factor" = some (.ref (He.ga K "tent_factor")) := T.gl _ _ (He.eqO_ok (T.said.1.fact 25 (f := .glo "tent_factor") rfl))
theorem Txt.g_factor : mg "factor" = some (.ref (He.ga K "factor")) := T.gl _ _ (He.eqO_ok (T.said.1.fact 26 (f := .glo "factor") rfl))
theorem Txt.g_moved_outline : mg "moved_outline" = some (.ref (He.ga K "moved_outline")) := T.gl _ _ (He.eqO_ok (T.said.1.fact 27 (f := .glo "moved_outline") rfl))
theorem Txt.g_varied : mg "varied" = some (.ref (He.ga K "varied")) := T.gl _ _ (He.eqO_ok (T.said.1.fact 28 (f := .glo "varied") rfl))
theorem Txt.g_at_place : mg "at_place" = some (.ref (He.ga K "at_place")) := T.gl _ _ (He.eqO_ok (T.said.1.fact 29 (f := .glo "at_place") rfl))
theorem Txt.g__law_deck : mg "_law_deck" = some (.ref (He.ga K "_law_deck")) := T.gl _ _ (He.eqO_ok (T.said.1.fact 30 (f := .glo "_law_deck") rfl))
theorem Txt.g__law_draw : mg "_law_draw" = some (.ref (He.ga K "_law_draw")) := T.gl _ _ (He.eqO_ok (T.said.1.fact 31 (f := .glo "_law_draw") rfl))
theorem Txt.g__law_point : mg "_law_point" = some (.ref (He.ga K "_law_point")) := T.gl _ _ (He.eqO_ok (T.said.1.fact 32 (f := .glo "_law_point") rfl))
theorem Txt.g__law_outline : mg "_law_outline" = some (.ref (He.ga K "_law_outline")) := T.gl _ _ (He.eqO_ok (T.said.1.fact 33 (f := .glo "_law_outline") rfl))
theorem Txt.g__law_axes : mg "_law_axes" = some (.ref (He.ga K "_law_axes")) := T.gl _ _ (He.eqO_ok (T.said.1.fact 34 (f := .glo "_law_axes") rfl))
theorem Txt.g__law_tent : mg "_law_tent" = some (.ref (He.ga K "_law_tent")) := T.gl _ _ (He.eqO_ok (T.said.1.fact 35 (f := .glo "_law_tent") rfl))
theorem Txt.g__law_place : mg "_law_place" = some (.ref (He.ga K "_law_place")) := T.gl _ _ (He.eqO_ok (T.said.1.fact 36 (f := .glo "_law_place") rfl))
theorem Txt.g__law_deltas : mg "_law_deltas" = some (.ref (He.ga K "_law_deltas")) := T.gl _ _ (He.eqO_ok (T.said.1.fact 37 (f := .glo "_law_deltas") rfl))
theorem Txt.g__law_font_tent : mg "_law_font_tent" = some (.ref (He.ga K "_law_font_tent")) := T.gl _ _ (He.eqO_ok (T.said.1.fact 38 (f := .glo "_law_font_tent") rfl))
theorem Txt.g__law_styled : mg "_law_styled" = some (.ref (He.ga K "_law_styled")) := T.gl _ _ (He.eqO_ok (T.said.1.fact 39 (f := .glo "_law_styled") rfl))
theorem Txt.g__law_styled_font : mg "_law_styled_font" = some (.ref (He.ga K "_law_styled_font")) := T.gl _ _ (He.eqO_ok (T.said.1.fact 40 (f := .glo "_law_styled_font") rfl))
theorem Txt.g__law_instance : mg "_law_instance" = some (.ref (He.ga K "_law_instance")) := T.gl _ _ (He.eqO_ok (T.said.1.fact 41 (f := .glo "_law_instance") rfl))
theorem Txt.g_law : mg "law" = some (.ref (He.ga K "law")) := T.gl _ _ (He.eqO_ok (T.said.1.fact 42 (f := .glo "law") rfl))
theorem Txt.g_Glyph : mg "Glyph" = some (.ref (He.ga K "Glyph")) := T.gl _ _ (He.eqO_ok (T.said.1.fact 43 (f := .glo "Glyph") rfl))
theorem Txt.g_Font : mg "Font" = some (.ref (He.ga K "Font")) := T.gl _ _ (He.eqO_ok (T.said.1.fact 44 (f := .glo "Font") rfl))
theorem Txt.g_Moves : mg "Moves" = some (.ref (He.ga K "Moves")) := T.gl _ _ (He.eqO_ok (T.said.1.fact 45 (f := .glo "Moves") rfl))
theorem Txt.g_OutOfRange : mg "OutOfRange" = some (.ref (He.ga K "OutOfRange")) := T.gl _ _ (He.eqO_ok (T.said.1.fact 46 (f := .glo "OutOfRange") rfl))
theorem Txt.g_WHOLE : mg "WHOLE" = some (.ref (He.ga K "WHOLE")) := T.gl _ _ (He.eqO_ok (T.said.1.fact 47 (f := .glo "WHOLE") rfl))
theorem Txt.g_NOTHING : mg "NOTHING" = some (.ref (He.ga K "NOTHING")) := T.gl _ _ (He.eqO_ok (T.said.1.fact 48 (f := .glo "NOTHING") rfl))
theorem Txt.n_len : mg "len" = none := T.gl _ _ (He.eqO_ok (T.said.1.fact 49 (f := .free "len") rfl))
theorem Txt.n_sum : mg "sum" = none := T.gl _ _ (He.eqO_ok (T.said.1.fact 50 (f := .free "sum") rfl))
theorem Txt.n_all : mg "all" = none := T.gl _ _ (He.eqO_ok (T.said.1.fact 51 (f := .free "all") rfl))
theorem Txt.n_range : mg "range" = none := T.gl _ _ (He.eqO_ok (T.said.1.fact 52 (f := .free "range") rfl))
theorem Txt.n_zip : mg "zip" = none := T.gl _ _ (He.eqO_ok (T.said.1.fact 53 (f := .free "zip") rfl))
theorem Txt.n_enumerate : mg "enumerate" = none := T.gl _ _ (He.eqO_ok (T.said.1.fact 54 (f := .free "enumerate") rfl))
theorem Txt.n_list : mg "list" = none := T.gl _ _ (He.eqO_ok (T.said.1.fact 55 (f := .free "list") rfl))
theorem Txt.n_max : mg "max" = none := T.gl _ _ (He.eqO_ok (T.said.1.fact 56 (f := .free "max") rfl))
theorem Txt.n_any : mg "any" = none := T.gl _ _ (He.eqO_ok (T.said.1.fact 57 (f := .free "any") rfl))
theorem Txt.n_abs : mg "abs" = none := T.gl _ _ (He.eqO_ok (T.said.1.fact 58 (f := .free "abs") rfl))
theorem Txt.n_int : mg "int" = none := T.gl _ _ (He.eqO_ok (T.said.1.fact 59 (f := .free "int") rfl))
theorem Txt.n_sorted : mg "sorted" = none := T.gl _ _ (He.eqO_ok (T.said.1.fact 60 (f := .free "sorted") rfl))
theorem Txt.i_MOST_CONTOURS : ∃ t, mg "MOST_CONTOURS" = some (.int 40 t) := by
  have c := T.said.1.fact 61 (f := .int "MOST_CONTOURS" 40) rfl
  have c2 : (match PySem.W.nsIn K mainGlobals "MOST_CONTOURS" with
    | some (some (.int j _)) => decide (j = 40)
    | _ => false) = true := c
  split at c2
  · rename_i j t e
    have ej := of_decide_eq_true c2
    subst ej
    exact ⟨t, T.gl _ _ e⟩
  · cases c2
theorem Txt.i_MOST_POINTS : ∃ t, mg "MOST_POINTS" = some (.int 200 t) := by
  have c := T.said.1.fact 62 (f := .int "MOST_POINTS" 200) rfl
  have c2 : (match PySem.W.nsIn K mainGlobals "MOST_POINTS" with
    | some (some (.int j _)) => decide (j = 200)
    | _ => false) = true := c
  split at c2
  · rename_i j t e
    have ej := of_decide_eq_true c2
    subst ej
    exact ⟨t, T.gl _ _ e⟩
  · cases c2
theorem Txt.i_FARTHEST : ∃ t, mg "FARTHEST" = some (.int 16384 t) := by
  have c := T.said.1.fact 63 (f := .int "FARTHEST" 16384) rfl
  have c2 : (match PySem.W.nsIn K mainGlobals "FARTHEST" with
    | some (some (.int j _)) => decide (j = 16384)
    | _ => false) = true := c
  split at c2
  · rename_i j t e
    have ej := of_decide_eq_true c2
    subst ej
    exact ⟨t, T.gl _ _ e⟩
  · cases c2
theorem Txt.i_MOST_ADVANCE : ∃ t, mg "MOST_ADVANCE" = some (.int 16384 t) := by
  have c := T.said.1.fact 64 (f := .int "MOST_ADVANCE" 16384) rfl
  have c2 : (match PySem.W.nsIn K mainGlobals "MOST_ADVANCE" with
    | some (some (.int j _)) => decide (j = 16384)
    | _ => false) = true := c
  split at c2
  · rename_i j t e
    have ej := of_decide_eq_true c2
    subst ej
    exact ⟨t, T.gl _ _ e⟩
  · cases c2
theorem Txt.i_MOST_NUMBER : ∃ t, mg "MOST_NUMBER" = some (.int 2147483647 t) := by
  have c := T.said.1.fact 65 (f := .int "MOST_NUMBER" 2147483647) rfl
  have c2 : (match PySem.W.nsIn K mainGlobals "MOST_NUMBER" with
    | some (some (.int j _)) => decide (j = 2147483647)
    | _ => false) = true := c
  split at c2
  · rename_i j t e
    have ej := of_decide_eq_true c2
    subst ej
    exact ⟨t, T.gl _ _ e⟩
  · cases c2
theorem Txt.i_MOST_DEPTH : ∃ t, mg "MOST_DEPTH" = some (.int 4 t) := by
  have c := T.said.1.fact 66 (f := .int "MOST_DEPTH" 4) rfl
  have c2 : (match PySem.W.nsIn K mainGlobals "MOST_DEPTH" with
    | some (some (.int j _)) => decide (j = 4)
    | _ => false) = true := c
  split at c2
  · rename_i j t e
    have ej := of_decide_eq_true c2
    subst ej
    exact ⟨t, T.gl _ _ e⟩
  · cases c2
theorem Txt.i_MOST_CODE : ∃ t, mg "MOST_CODE" = some (.int 1114111 t) := by
  have c := T.said.1.fact 67 (f := .int "MOST_CODE" 1114111) rfl
  have c2 : (match PySem.W.nsIn K mainGlobals "MOST_CODE" with
    | some (some (.int j _)) => decide (j = 1114111)
    | _ => false) = true := c
  split at c2
  · rename_i j t e
    have ej := of_decide_eq_true c2
    subst ej
    exact ⟨t, T.gl _ _ e⟩
  · cases c2
theorem Txt.i_MOST_GLYPHS : ∃ t, mg "MOST_GLYPHS" = some (.int 60 t) := by
  have c := T.said.1.fact 68 (f := .int "MOST_GLYPHS" 60) rfl
  have c2 : (match PySem.W.nsIn K mainGlobals "MOST_GLYPHS" with
    | some (some (.int j _)) => decide (j = 60)
    | _ => false) = true := c
  split at c2
  · rename_i j t e
    have ej := of_decide_eq_true c2
    subst ej
    exact ⟨t, T.gl _ _ e⟩
  · cases c2
theorem Txt.i_MOST_LOOKUPS : ∃ t, mg "MOST_LOOKUPS" = some (.int 20 t) := by
  have c := T.said.1.fact 69 (f := .int "MOST_LOOKUPS" 20) rfl
  have c2 : (match PySem.W.nsIn K mainGlobals "MOST_LOOKUPS" with
    | some (some (.int j _)) => decide (j = 20)
    | _ => false) = true := c
  split at c2
  · rename_i j t e
    have ej := of_decide_eq_true c2
    subst ej
    exact ⟨t, T.gl _ _ e⟩
  · cases c2
theorem Txt.i_MOST_FEATURES : ∃ t, mg "MOST_FEATURES" = some (.int 12 t) := by
  have c := T.said.1.fact 70 (f := .int "MOST_FEATURES" 12) rfl
  have c2 : (match PySem.W.nsIn K mainGlobals "MOST_FEATURES" with
    | some (some (.int j _)) => decide (j = 12)
    | _ => false) = true := c
  split at c2
  · rename_i j t e
    have ej := of_decide_eq_true c2
    subst ej
    exact ⟨t, T.gl _ _ e⟩
  · cases c2
theorem Txt.i_MOST_AXES : ∃ t, mg "MOST_AXES" = some (.int 3 t) := by
  have c := T.said.1.fact 71 (f := .int "MOST_AXES" 3) rfl
  have c2 : (match PySem.W.nsIn K mainGlobals "MOST_AXES" with
    | some (some (.int j _)) => decide (j = 3)
    | _ => false) = true := c
  split at c2
  · rename_i j t e
    have ej := of_decide_eq_true c2
    subst ej
    exact ⟨t, T.gl _ _ e⟩
  · cases c2
theorem Txt.i_MOST_REGIONS : ∃ t, mg "MOST_REGIONS" = some (.int 8 t) := by
  have c := T.said.1.fact 72 (f := .int "MOST_REGIONS" 8) rfl
  have c2 : (match PySem.W.nsIn K mainGlobals "MOST_REGIONS" with
    | some (some (.int j _)) => decide (j = 8)
    | _ => false) = true := c
  split at c2
  · rename_i j t e
    have ej := of_decide_eq_true c2
    subst ej
    exact ⟨t, T.gl _ _ e⟩
  · cases c2
theorem Txt.i_MOST_FUNCTIONS : ∃ t, mg "MOST_FUNCTIONS" = some (.int 12 t) := by
  have c := T.said.1.fact 73 (f := .int "MOST_FUNCTIONS" 12) rfl
  have c2 : (match PySem.W.nsIn K mainGlobals "MOST_FUNCTIONS" with
    | some (some (.int j _)) => decide (j = 12)
    | _ => false) = true := c
  split at c2
  · rename_i j t e
    have ej := of_decide_eq_true c2
    subst ej
    exact ⟨t, T.gl _ _ e⟩
  · cases c2
theorem Txt.i_MOST_VALUES : ∃ t, mg "MOST_VALUES" = some (.int 32 t) := by
  have c := T.said.1.fact 74 (f := .int "MOST_VALUES" 32) rfl
  have c2 : (match PySem.W.nsIn K mainGlobals "MOST_VALUES" with
    | some (some (.int j _)) => decide (j = 32)
    | _ => false) = true := c
  split at c2
  · rename_i j t e
    have ej := of_decide_eq_true c2
    subst ej
    exact ⟨t, T.gl _ _ e⟩
  · cases c2
theorem Txt.c_Glyph : Cls K (He.ga K "Glyph") := He.cls_ok (T.said.1.fact 75 (f := .cls "Glyph") rfl)
theorem Txt.m_Glyph : Mk K (He.ga K "Glyph") (He.ma K (He.ga K "Glyph") "__init__") := He.mkr_ok (T.said.1.fact 76 (f := .mkr "Glyph") rfl)
theorem Txt.a_Glyph_advance : NoAttr K (He.ga K "Glyph") "advance" := He.noat_ok (T.said.1.fact 77 (f := .noat "Glyph" "advance") rfl)
theorem Txt.a_Glyph_outline : NoAttr K (He.ga K "Glyph") "outline" := He.noat_ok (T.said.1.fact 78 (f := .noat "Glyph" "outline") rfl)
theorem Txt.a_Glyph_parts : NoAttr K (He.ga K "Glyph") "parts" := He.noat_ok (T.said.1.fact 79 (f := .noat "Glyph" "parts") rfl)
theorem Txt.a_Glyph_anchors : NoAttr K (He.ga K "Glyph") "anchors" := He.noat_ok (T.said.1.fact 80 (f := .noat "Glyph" "anchors") rfl)
theorem Txt.a_Glyph_mark : NoAttr K (He.ga K "Glyph") "mark" := He.noat_ok (T.said.1.fact 81 (f := .noat "Glyph" "mark") rfl)
theorem Txt.a_Glyph_deltas : NoAttr K (He.ga K "Glyph") "deltas" := He.noat_ok (T.said.1.fact 82 (f := .noat "Glyph" "deltas") rfl)
theorem Txt.a_Glyph_hint : NoAttr K (He.ga K "Glyph") "hint" := He.noat_ok (T.said.1.fact 83 (f := .noat "Glyph" "hint") rfl)
theorem Txt.c_Font : Cls K (He.ga K "Font") := He.cls_ok (T.said.1.fact 84 (f := .cls "Font") rfl)
theorem Txt.m_Font : Mk K (He.ga K "Font") (He.ma K (He.ga K "Font") "__init__") := He.mkr_ok (T.said.1.fact 85 (f := .mkr "Font") rfl)
theorem Txt.a_Font_unit : NoAttr K (He.ga K "Font") "unit" := He.noat_ok (T.said.1.fact 86 (f := .noat "Font" "unit") rfl)
theorem Txt.a_Font_glyphs : NoAttr K (He.ga K "Font") "glyphs" := He.noat_ok (T.said.1.fact 87 (f := .noat "Font" "glyphs") rfl)
theorem Txt.a_Font_chars : NoAttr K (He.ga K "Font") "chars" := He.noat_ok (T.said.1.fact 88 (f := .noat "Font" "chars") rfl)
theorem Txt.a_Font_lookups : NoAttr K (He.ga K "Font") "lookups" := He.noat_ok (T.said.1.fact 89 (f := .noat "Font" "lookups") rfl)
theorem Txt.a_Font_features : NoAttr K (He.ga K "Font") "features" := He.noat_ok (T.said.1.fact 90 (f := .noat "Font" "features") rfl)
theorem Txt.a_Font_axes : NoAttr K (He.ga K "Font") "axes" := He.noat_ok (T.said.1.fact 91 (f := .noat "Font" "axes") rfl)
theorem Txt.a_Font_regions : NoAttr K (He.ga K "Font") "regions" := He.noat_ok (T.said.1.fact 92 (f := .noat "Font" "regions") rfl)
theorem Txt.a_Font_functions : NoAttr K (He.ga K "Font") "functions" := He.noat_ok (T.said.1.fact 93 (f := .noat "Font" "functions") rfl)
theorem Txt.a_Font_presets : NoAttr K (He.ga K "Font") "presets" := He.noat_ok (T.said.1.fact 94 (f := .noat "Font" "presets") rfl)
theorem Txt.c_Moves : Cls K (He.ga K "Moves") := He.cls_ok (T.said.1.fact 95 (f := .cls "Moves") rfl)
theorem Txt.m_Moves : Mk K (He.ga K "Moves") (He.ma K (He.ga K "Moves") "__init__") := He.mkr_ok (T.said.1.fact 96 (f := .mkr "Moves") rfl)
theorem Txt.a_Moves_sums : NoAttr K (He.ga K "Moves") "sums" := He.noat_ok (T.said.1.fact 97 (f := .noat "Moves" "sums") rfl)
theorem Txt.h_Font_refuse : Meth K (He.ga K "Font") "refuse" (He.ma K (He.ga K "Font") "refuse") := He.meth_ok (T.said.1.fact 98 (f := .meth "Font" "refuse") rfl)
theorem Txt.h_Font_check_glyphs : Meth K (He.ga K "Font") "check_glyphs" (He.ma K (He.ga K "Font") "check_glyphs") := He.meth_ok (T.said.1.fact 99 (f := .meth "Font" "check_glyphs") rfl)
theorem Txt.h_Font_check_lookups : Meth K (He.ga K "Font") "check_lookups" (He.ma K (He.ga K "Font") "check_lookups") := He.meth_ok (T.said.1.fact 100 (f := .meth "Font" "check_lookups") rfl)
theorem Txt.h_Font_check_rest : Meth K (He.ga K "Font") "check_rest" (He.ma K (He.ga K "Font") "check_rest") := He.meth_ok (T.said.1.fact 101 (f := .meth "Font" "check_rest") rfl)
theorem Txt.h_Moves_has : Meth K (He.ga K "Moves") "has" (He.ma K (He.ga K "Moves") "has") := He.meth_ok (T.said.1.fact 102 (f := .meth "Moves" "has") rfl)
theorem Txt.h_Moves_by : Meth K (He.ga K "Moves") "by" (He.ma K (He.ga K "Moves") "by") := He.meth_ok (T.said.1.fact 103 (f := .meth "Moves" "by") rfl)
theorem Txt.exm : PySem.W.exmOne K (.ref (He.ga K "OutOfRange")) (.ref (He.ga K "OutOfRange")) = some true := He.exm_ok (T.said.1.fact 104 (f := .exm "OutOfRange" "OutOfRange" true) rfl)
theorem Txt.more : mg "gcd" = some (.builtin "math.gcd") ∧ (∀ H, SqT K H (He.ga K "WHOLE") [.int 1, .int 1]) ∧ (∀ H, SqT K H (He.ga K "NOTHING") [.int 0, .int 1]) ∧ OexC K (He.ga K "OutOfRange") ∧
    PySem.W.findIn K (.ref (He.ga K "OutOfRange")) "__init__" = some (some (.ref (He.ma K (He.ga K "OutOfRange") "__init__"))) ∧ PySem.W.typeIn K (.ref (He.ma K (He.ga K "OutOfRange") "__init__")) = some (.type "function") ∧
    PySem.W.findIn K (.ref (He.ga K "OutOfRange")) "number" = some none ∧ ∀ q ∈ ([(("Glyph", some "__init__"), "parts"), (("Glyph", some "__init__"), "anchors"), (("Glyph", some "__init__"), "deltas"), (("Glyph", some "__init__"), "hint"), (("Font", some "__init__"), "chars"), (("Font", some "__init__"), "lookups"), (("Font", some "__init__"), "features"), (("Font", some "__init__"), "axes"), (("Font", some "__init__"), "regions"), (("Font", some "__init__"), "functions"), (("Font", some "__init__"), "presets")] : List ((Str × Option Str) × Str)), ∀ H, SqT K H (kwdAt q.1 q.2 K) [] := by
  obtain ⟨h1, h2⟩ := He.ba T.said.2
  obtain ⟨h3, h4⟩ := He.ba h2
  obtain ⟨h5, h6⟩ := He.ba h4
  obtain ⟨h7, h8⟩ := He.ba h6
  obtain ⟨h9, h10⟩ := He.ba h8
  obtain ⟨h11, h12⟩ := He.ba h10
  obtain ⟨h13, h14⟩ := He.ba h12
  exact ⟨T.gl _ _ (He.eqO_ok h1), He.tupB_ok h3, He.tupB_ok h5, oexB_ok h7, He.eqO_ok h9, of_decide_eq_true h11, He.eqO_ok h13, fun q hq H => etB_ok (List.all_eq_true.mp h14 q hq) H⟩
end
end Fl
section
set_option Elab.async false
set_option linter.all false
set_option maxRecDepth 100000
set_option maxHeartbeats 4000000
/-! A head for a text that opens with imports: the opening, too, is run in the kernel over the heap as a tree. -/
noncomputable section
namespace Fo
open PySem PySem.W PySem.Calls PyProof.Rows HandSHeadRun
/-- the opening, to the place where the process would end -/
def goI (st : SharedT → Thread → Option (SharedT × Thread)) : Nat → SharedT → Thread → Option SharedT
  | 0, _, _ => none
  | m + 1, s, t => match t.atExitBegin with
    | some l => (match l with
      | [] => some s
      | _ :: _ => none)
    | none => match st s t with
      | some r => frS r.1 fun s2 => goI st m s2 r.2
      | none => none
theorem goI_ok {tb : String → Option Builtin} {p : Program} {w : World} : ∀ {m : Nat} {s z : SharedT} {t : Thread}, goI (stepT (denote tb) p w) m s t = some z → importEnds tb p w m s.abs t = some z.abs
  | 0, _, _, _, h => by cases h
  | m + 1, s, z, t, h => by
    unfold goI at h
    unfold importEnds
    cases a : t.atExitBegin with
    | some l =>
      rw [a] at h
      cases l with
      | nil =>
        have h2 : some s = some z := h
        cases h2
        rfl
      | cons x xs => cases h
    | none =>
      rw [a] at h
      cases b : stepT (denote tb) p w s t with
      | none =>
        rw [b] at h
        cases h
      | some r =>
        obtain ⟨s2, t2⟩ := r
        rw [b] at h
        have h2 : (frS s2 fun s2 => goI (stepT (denote tb) p w) m s2 t2) = some z := h
        rw [frS_eq] at h2
        have ih := goI_ok h2
        show (match step (denote tb) p w s.abs t with
          | .go s' t' => importEnds tb p w m s' t'
          | .halt _ _ => none) = some z.abs
        rw [stepT_spec b]
        exact ih
/-- the state at the very start -/
def zeroT (p : Program) : SharedT := ⟨.nil, 0, (start p).1.heap.life, (start p).1.gens, (start p).1.drawn, (start p).1.toks, (start p).1.os⟩
theorem zeroT_abs (p : Program) : (zeroT p).abs = (start p).1 := rfl
/-- the top, from a state that is told as a heap -/
def topF (st : SharedT → Thread → Option (SharedT × Thread)) (M : Nat) (p : Program) (s : Shared) : Option SharedT := match putAll s.heap.objs.toList .nil 0 with
  | some r => frNat r.2 fun n => frNat s.toks fun tk => goF st n (s.heap.nsMap mainGlobals "__annotations__") M ⟨r.1, n, s.heap.life, s.gens, s.drawn, tk, s.os⟩ (topStub p)
  | none => none
theorem topF_ok {M : Nat} {p : Program} {w : World} {s : Shared} {z : SharedT} (h : topF (stepT (denote treeTable) p w) M p s = some z) :
    topRun treeTable p w s.heap.objs.size (s.heap.nsMap mainGlobals "__annotations__") M s (topStub p) = some z.abs := by
  unfold topF at h
  cases e : putAll s.heap.objs.toList .nil 0 with
  | none =>
    rw [e] at h
    cases h
  | some r =>
    obtain ⟨t, n⟩ := r
    rw [e] at h
    have h1 : (frNat n fun n => frNat s.toks fun tk => goF (stepT (denote treeTable) p w) n (s.heap.nsMap mainGlobals "__annotations__") M ⟨t, n, s.heap.life, s.gens, s.drawn, tk, s.os⟩ (topStub p)) = some z := h
    rw [frNat_eq, frNat_eq] at h1
    have q := goF_ok h1
    have hh := putAll_heap e
    have hn : s.heap.objs.size = n := by
      rw [← hh]
      exact absHeap_size t n _
    have hs : (⟨t, n, s.heap.life, s.gens, s.drawn, s.toks, s.os⟩ : SharedT).abs = s := by
      show (⟨absHeap t n s.heap.life, s.gens, s.drawn, s.toks, s.os⟩ : Shared) = s
      rw [hh]
    rw [hs] at q
    rw [hn]
    exact q
/-- both runs: the state ahead of the top, the state behind it -/
def wholeF (st : Program → World → SharedT → Thread → Option (SharedT × Thread)) (M : Nat) (p : Program) (w : World) : Option (Shared × SharedT) :=
  match goI (st (opening p) w) M (zeroT (opening p)) (start (opening p)).2 with
  | some s1 => (match fenceModules? p s1.abs with
    | some s2 => (match topF (st p w) M p s2 with
      | some s3 => some (s2, s3)
      | none => none)
    | none => none)
  | none => none
theorem wholeF_ok {M : Nat} {p : Program} {w : World} {r : Shared × SharedT} (h : wholeF (fun p w => stepT (denote treeTable) p w) M p w = some r)
    (g : (r.1.heap.isNs mainGlobals && r.1.gens.size == 0) = true) (l : looksF p r.1.heap r.2.abs = true) : openEnds treeTable p w M = some r.2.abs := by
  unfold wholeF at h
  cases a : goI (stepT (denote treeTable) (opening p) w) M (zeroT (opening p)) (start (opening p)).2 with
  | none =>
    rw [a] at h
    cases h
  | some s1 =>
    rw [a] at h
    have h : (match fenceModules? p s1.abs with
      | some s2 => (match topF (stepT (denote treeTable) p w) M p s2 with
        | some s3 => some (s2, s3)
        | none => none)
      | none => none) = some r := h
    have e1 := goI_ok a
    rw [zeroT_abs] at e1
    cases b : fenceModules? p s1.abs with
    | none =>
      rw [b] at h
      cases h
    | some s2 =>
      rw [b] at h
      have h : (match topF (stepT (denote treeTable) p w) M p s2 with
        | some s3 => some (s2, s3)
        | none => none) = some r := h
      cases c : topF (stepT (denote treeTable) p w) M p s2 with
      | none =>
        rw [c] at h
        cases h
      | some s3 =>
        rw [c] at h
        have h : some (s2, s3) = some r := h
        cases h
        have e3 := topF_ok c
        have e2 : fencedOpening treeTable p w M = some s2 := by
          unfold fencedOpening
          rw [e1]
          exact b
        unfold openEnds
        rw [e2]
        show topFrom treeTable p w M s2 = some s3.abs
        unfold topFrom
        rw [g]
        show (topRun treeTable p w s2.heap.objs.size (s2.heap.nsMap mainGlobals "__annotations__") M s2 (topStub p)).bind _ = _
        rw [e3]
        have l2 : (staticsOk (importedModules p.main.body) s2.heap s3.abs.heap && namesBound p s3.abs.heap && gensDone s3.abs && laidKept s2.heap s3.abs.heap) = true := l
        show (match staticsOk (importedModules p.main.body) s2.heap s3.abs.heap && namesBound p s3.abs.heap && gensDone s3.abs && laidKept s2.heap s3.abs.heap with
          | true => some s3.abs
          | false => none) = some s3.abs
        rw [l2]
/-- what the kernel is to show of a row at a world -/
def RunI (r : OpenRow) (q : Program) (H : Hook) (ob : SharedT → H.α) (M : Nat) (loose : List PySem.Str) (w : World) : Prop :=
  (wholeF (fun p w => stepQ (denQ tabQ) p w) M r.prog w).map (fun s => (s.1.heap.isNs mainGlobals && s.1.gens.size == 0, looksF r.prog s.1.heap s.2.abs, seenQ q loose (importedModules r.prog.main.body) (fun s => xlAt q [] s && recOk r.toRowW.records s) s.2.abs, ob s.2)) =
    some (true, true, openGood q loose, H.val w)
theorem left_imp {r : OpenRow} {q : Program} {H : Hook} {ob : SharedT → H.α} {M : Nat} {loose : List PySem.Str} (ho : ∀ s : SharedT, ob s = H.obs s.abs) (run : ∀ w, RunI r q H ob M loose w) :
    LeftO r.prog q loose (fun s => xlAt q [] s && recOk r.toRowW.records s) H.obs H.val M true := fun w => by
  have z := run w
  unfold RunI at z
  rw [← stepQ_eq, ← denQ_eq, ← tabQ_eq] at z
  obtain ⟨s, hs, hv⟩ := Option.map_eq_some_iff.mp z
  obtain ⟨v1, v2, v3, v4⟩ : _ ∧ _ ∧ _ ∧ _ := by simpa only [Prod.mk.injEq] using hv
  rw [wholeF_ok hs v1 v2]
  show some (openSeen q loose (importedModules r.prog.main.body) (fun s => xlAt q [] s && recOk r.toRowW.records s) true s.2.abs, H.obs s.2.abs) = _
  rw [seenQ_eq, v3, ← ho, v4]
/-- the head of a law's row with imports -/
theorem head_imp {r : OpenRow} {q : Program} {H : Hook} {ob : SharedT → H.α} {M : Nat} {loose : List PySem.Str} {d : DefRec} {kwd : List (PySem.Str × PySem.Expr)} (ho : ∀ s : SharedT, ob s = H.obs s.abs) (run : ∀ w, RunI r q H ob M loose w)
    (hdef : defOf q r.name = some (d, kwd)) (hp : r.prog.theDef r.name = some (d.params, d.body, d.scope)) (hk : kwWritten? d.params.kwonlyargs d.params.kw_defaults = some kwd)
    (hwr : (!r.writes || r.records.isEmpty) = true) (k1 : r.wellSaid = true) (ok : (chainsOk q && opensWell r.prog && (frees r.toRowW && r.within.isEmpty)) = true) (hb : r.prog.bare) (hw : r.toRowW.promised)
    (call : WalkO q loose (XL q []) H.says r.toRowW d kwd fun f vs => PySem.call f vs) : r.Holds :=
  holds_open (r := r) (q := q) (loose := loose) (XP := XL q []) (YP := H.says) (d := d) (kwd := kwd) (left_imp ho run) H.of H.keeps (fun s z => xl_of s (Bool.and_eq_true_iff.mp z).1) XL.keeps hdef hp hk
    (fun s z => recFacts_of (Bool.and_eq_true_iff.mp z).2) hwr k1 ok hb hw call
end Fo
end
end
section
set_option Elab.async false
set_option linter.all false
set_option maxRecDepth 100000
set_option maxHeartbeats 0
namespace Fl
open PySem PySem.Spec PyProof.Rows L2
def nm0 : List Str := ["gcd", "FleuronError", "InvalidFont", "OutOfRange", "ZeroDivisor", "InvalidPlace", "MOST_CONTOURS", "MOST_POINTS", "FARTHEST", "count_points", "is_near", "is_proper", "MOST_ADVANCE", "MOST_NUMBER", "MOST_DEPTH", "MOST_CODE", "ANCHOR_KINDS", "WORDS", "KINDS", "is_coordinate", "hint_fault", "glyph_fault", "depths", "parts_fault", "chars_fault", "is_set", "calls_right", "fits_kind", "rule_fault", "lookup_fault"]
def nm1 : List Str := ["is_feature_name", "feature_fault", "axis_fault", "region_fault", "MOST_GLYPHS", "MOST_LOOKUPS", "MOST_FEATURES", "MOST_AXES", "MOST_REGIONS", "MOST_FUNCTIONS", "MOST_VALUES", "Glyph", "Rule", "Lookup", "copied_glyph", "copied_rule", "copied_lookup", "Font", "glyph_parts", "rule_parts", "lookup_parts", "font_parts", "same_font", "ratio", "add", "subtract", "multiply", "divide", "compare", "nearest"]
def nm2 : List Str := ["WHOLE", "NOTHING", "share", "shares", "tent_factor", "factor", "Moves", "moved_outline", "varied", "at_place", "_law_deck", "_law_draw", "_law_point", "_law_outline", "_law_axes", "_law_tent", "_law_place", "_law_deltas", "_law_font_tent", "_law_styled", "_law_styled_font", "_law_instance"]
def names : List Str := nm0 ++ nm1 ++ nm2
abbrev R : PySem.W.OpenRow := PySem.W.OpenLaw.row PySem.Challenge.rw_fleuron_k43_whole_instances
abbrev hk : PySem.W.Hook := hookF 6
def ob (s : PySem.W.SharedT) : AlF := obsF 6 (HandSHeadRun.getT s)
theorem nsIn_eq' {K : PySem.W.Frag} {h : Heap} {mg : Str → Option Value} (X : K.In h) (G : h.Ns mainGlobals mg) {x : Str} {v : Option Value} (e : PySem.W.nsIn K mainGlobals x = some v) : mg x = v := by
  cases v with
  | none => exact PySem.W.mg_none_of X G e
  | some u => exact PySem.W.mg_of X G e
theorem ob_eq (s : PySem.W.SharedT) : ob s = hk.obs s.abs := obsF_eq (HandSHeadRun.getT_eq s)
theorem run1 (w : World) : (Fo.wholeF (fun p w => HandSHeadRun.stepQ (HandSHeadRun.denQ HandSHeadRun.tabQ) p w) 9000 R.prog w).map (fun s => (s.1.heap.isNs mainGlobals && s.1.gens.size == 0, HandSHeadRun.looksF R.prog s.1.heap s.2.abs, HandSHeadRun.seenQ (PySem.W.view R.prog [89]) names (PySem.importedModules R.prog.main.body) (fun s => PySem.W.xlAt (PySem.W.view R.prog [89]) [] s && PySem.W.recOk R.toRowW.records s) s.2.abs)) =
    some (true, true, PySem.W.openGood (PySem.W.view R.prog [89]) names) := by
  kernel_rfl
theorem run2 (w : World) : (Fo.wholeF (fun p w => HandSHeadRun.stepQ (HandSHeadRun.denQ HandSHeadRun.tabQ) p w) 9000 R.prog w).map (fun s => ob s.2) = some (hk.val w) := by
  kernel_rfl
theorem run (w : World) : Fo.RunI R (PySem.W.view R.prog [89]) hk ob 9000 names w := by
  obtain ⟨s, e1, e2⟩ := Option.map_eq_some_iff.mp (run1 w)
  obtain ⟨z, g1, g2⟩ := Option.map_eq_some_iff.mp (run2 w)
  have es : s = z := Option.some.inj (e1.symm.trans g1)
  subst es
  unfold Fo.RunI
  rw [e1]
  obtain ⟨v1, v2, v3⟩ : _ ∧ _ ∧ _ := by simpa only [Prod.mk.injEq] using e2
  exact congrArg some (Prod.ext v1 (Prod.ext v2 (Prod.ext v3 g2)))
end Fl
open PySem PySem.W PySem.Calls PyProof.Rows
theorem Fl.head_done (k : Nat) (hr : L2.Room k callerA) (CX : L2.CXT) (hCX : ∀ (H : L2.Hp) (s : Shared) (e : Value) (s' : Shared), CX [] H s (fun _ _ _ => False) e s' → False)
    (F : ∀ (w : World) (mg : PySem.Str → Option Value) (fa : Addr) (h : Heap) (K : Frag), K.In h → Fl.Txt K mg → mg ("law" : PySem.Str) = some (.ref fa) →
      ∃ (fd : FuncData) (sp : L2.Sp), (∀ (s : Shared) (u : Value), BindsTo s fd ⟨[u], []⟩ [("_law_script", u)]) ∧
        (∀ (H : L2.Hp) (a : Addr) (ns : List Int), ns.length ≤ 63 → L2.Only H → L2.SqL K H a (ns.map L2.V.int) → sp [.ref a] H (fun v _ => v = .bl true) fun _ _ _ => False) ∧
        ∀ base : Heap, K.In base → base.Ns mainGlobals mg → L2.FnOk (PySem.Challenge.rw_fleuron_k43_whole_instances).prog w K mg base CX k fa fd ["_law_script"] sp) :
    PySem.Challenge.rw_fleuron_k43_whole_instances.Holds := by
  w_on; o_law
  refine Fo.head_imp (r := OpenLaw.row PySem.Challenge.rw_fleuron_k43_whole_instances) (q := view (OpenLaw.row PySem.Challenge.rw_fleuron_k43_whole_instances).prog [89]) (H := Fl.hk) (ob := Fl.ob) (M := 9000) (loose := Fl.names) (d := HandSHeadRun.topDef (OpenLaw.row PySem.Challenge.rw_fleuron_k43_whole_instances).prog 89) (kwd := []) Fl.ob_eq
    Fl.run (by kernel_rfl) (by kernel_rfl) (by kernel_rfl) (by rfl) (by first | assumption | decide +kernel) (by decide +kernel) ⟨rfl, rfl, rfl, rfl, rfl, by decide +kernel⟩ ?hw ?hc
  case hw => w_witness2
  case hc =>
    refine L2.walk_ofE (l := PySem.Challenge.rw_fleuron_k43_whole_instances) (n := 63) (k := k) (x := "_law_script") (CX := CX) rfl (by decide) (by kernel_rfl) hr ?F hCX
    intro w mg fa h Y G hmg0
    obtain ⟨K, KX, c⟩ := Y
    have hmg : mg ("law" : PySem.Str) = some (.ref fa) := by
      have e : (HandSHeadRun.topDef (OpenLaw.row PySem.Challenge.rw_fleuron_k43_whole_instances).prog 89).name = ("law" : PySem.Str) := by kernel_rfl
      rw [← e]
      exact hmg0
    have T : Fl.Txt K mg := ⟨c, fun x v e => Fl.nsIn_eq' KX G e⟩
    obtain ⟨fd, sp, h1, h2, h3⟩ := F w mg fa h K KX T hmg
    exact ⟨K, fd, sp, KX, h1, h2, h3⟩
end
set_option Elab.async false
set_option linter.all false
set_option maxRecDepth 100000
set_option maxHeartbeats 4000000
/-! Rules of my own over the hand layer. -/
namespace Fl
open PySem PySem.Spec PyProof.Rows L2
/-! ### a def that keeps its promise, by its name -/
structure Kept (P : Program) (w : World) (K : PySem.W.Frag) (mg : Str → Option Value) (base : Heap) (CX : CXT) (k : Nat) (x : Str) (ps : List Str) (dvs : List V) (sp : Sp) : Prop where
  ex : ∃ (f : Addr) (fd : FuncData) (ds : List Value), mg x = some (.ref f) ∧ PySem.W.keepIn K (.ref f) = true ∧ Binds K fd ps ds ∧ Vals dvs ds ∧ FnOk P w K mg base CX k f fd ps sp
/-- a method m of the class at C -/
structure KeptM (P : Program) (w : World) (K : PySem.W.Frag) (mg : Str → Option Value) (base : Heap) (CX : CXT) (k : Nat) (C : Addr) (m : Str) (ps : List Str) (sp : Sp) : Prop where
  ex : ∃ (f : Addr) (fd : FuncData), Meth K C m f ∧ Cls K C ∧ Binds K fd ps [] ∧ FnOk P w K mg base CX k f fd ps sp
/-- a class, called with n values and the keywords ks; gV puts them into the parameters' order -/
structure KeptC (P : Program) (w : World) (K : PySem.W.Frag) (mg : Str → Option Value) (base : Heap) (CX : CXT) (k : Nat) (x : Str) (C : Addr) (n : Nat) (ks : List Str) (gV : List V → List V → List V) (sp : Sp) : Prop where
  ex : ∃ (f : Addr) (fd : FuncData) (ps : List Str) (g : List Value → List Value → List Value), mg x = some (.ref C) ∧ Mk K C f ∧ KBn K fd ps (n + 1) ks g gV ∧ FnOk P w K mg base CX k f fd ps sp
/-- a class whose __init__ takes no keywords -/
structure KeptI (P : Program) (w : World) (K : PySem.W.Frag) (mg : Str → Option Value) (base : Heap) (CX : CXT) (k : Nat) (x : Str) (C : Addr) (ps : List Str) (sp : Sp) : Prop where
  ex : ∃ (f : Addr) (fd : FuncData), mg x = some (.ref C) ∧ Mk K C f ∧ Binds K fd ps [] ∧ FnOk P w K mg base CX k f fd ps sp
section
variable {X : Cx} {CX : CXT} {k j n : Nat} {C : Addr} {ps ks : List Str} {sp : Sp} {dvs : List V} {E : XK} {x m : Str} {p pos apos : Pos} {e o : Expr} {es : List Expr} {kws : List Keyword} {ta : TE} {t tk : TA} {gV : List V → List V → List V}
theorem pe_kc (G : Kept X.prog X.w X.K X.mg X.base CX k x ps dvs sp) (hk : k ≤ j) (hr : Room j X.A) (hg : Gl X x) (hx : Passes CX X E) (ha : PA X (e :: es) t) (hdb : (x == ("__debug__" : Str)) = false := by decide)
    (he : starEach (e :: es) X.env = (false, eval e X.env) :: starEach es X.env := by rfl) (hpl : (backTo pos (starEach es X.env)).any (·.1) = false := by rfl) : PE X (.Call (.Name x p) (e :: es) [] pos) (tCall sp dvs E t) := by
  obtain ⟨f, fd, ds, g1, g2, g3, g4, g5⟩ := G.ex
  exact pe_call g5 (hr.mono hk) hg g1 g2 g3 g4 hx ha hdb he hpl
theorem pe_km {pl : Sem Bool} (G : KeptM X.prog X.w X.K X.mg X.base CX k C m ps sp) (hk : k ≤ j) (hr : Room j X.A) (ho : PE X o ta) (hx : Passes CX X E) (ha : PA X (e :: es) t)
    (hst : starEach (e :: es) X.env = (false, eval e X.env) :: starEach es X.env := by rfl) (hpl : (backTo pos (starEach es X.env)).any (·.1) = false := by rfl)
    (ht : eval (.Call (.Attribute o m apos) (e :: es) [] pos) X.env = (do
      let recv ← eval o X.env
      standAt apos.atName
      let (fn, first) ← holding [recv] (getMethod recv m pl)
      callWith pos fn first (backTo pos (starEach (e :: es) X.env)) (backToKw pos (keywordEach [] X.env))) := by rfl) :
    PE X (.Call (.Attribute o m apos) (e :: es) [] pos) (tMeth C m sp [] E ta t) := by
  obtain ⟨f, fd, g1, g2, g3, g4⟩ := G.ex
  exact pe_meth ho g2 g1 g4 (hr.mono hk) g3 .nil hx ha hst hpl ht
theorem pe_km0 {pl : Sem Bool} (G : KeptM X.prog X.w X.K X.mg X.base CX k C m ps sp) (hk : k ≤ j) (hr : Room j X.A) (ho : PE X o ta) (hx : Passes CX X E)
    (ht : eval (.Call (.Attribute o m apos) [] [] pos) X.env = (do
      let recv ← eval o X.env
      standAt apos.atName
      let (fn, first) ← holding [recv] (getMethod recv m pl)
      callWith pos fn first (backTo pos (starEach [] X.env)) (backToKw pos (keywordEach [] X.env))) := by rfl) :
    PE X (.Call (.Attribute o m apos) [] [] pos) (tMeth C m sp [] E ta tNil) := by
  obtain ⟨f, fd, g1, g2, g3, g4⟩ := G.ex
  exact pe_meth0 ho g2 g1 g4 (hr.mono hk) g3 .nil hx ht
theorem pe_ki (G : KeptI X.prog X.w X.K X.mg X.base CX k x C ps sp) (hk : k + 1 ≤ j) (hr : Room j X.A) (hg : Gl X x) (hx : Passes CX X E) (ha : PA X (e :: es) t) (hdb : (x == ("__debug__" : Str)) = false := by decide)
    (he : starEach (e :: es) X.env = (false, eval e X.env) :: starEach es X.env := by rfl) (hpl : (backTo pos (starEach es X.env)).any (·.1) = false := by rfl) : PE X (.Call (.Name x p) (e :: es) [] pos) (tMake C sp [] E t) := by
  obtain ⟨f, fd, g1, g2, g3, g4⟩ := G.ex
  exact pe_make g2 g4 (hr.mono hk) hg g1 g3 .nil hx ha hdb he hpl
theorem pe_kk (G : KeptC X.prog X.w X.K X.mg X.base CX k x C n ks gV sp) (hk : k + 1 ≤ j) (hr : Room j X.A) (hg : Gl X x) (hx : Passes CX X E) (ha : PA X (e :: es) t) (hkw : PK X kws tk)
    (hall : (backToKw pos (keywordEach kws X.env)).all (·.1.isSome) = true := by rfl) (hks : (backToKw pos (keywordEach kws X.env)).filterMap (·.1) = ks := by rfl) (hdb : (x == ("__debug__" : Str)) = false := by decide)
    (he : starEach (e :: es) X.env = (false, eval e X.env) :: starEach es X.env := by rfl) (hpl : ((backTo pos (starEach (e :: es) X.env)).any (·.1) || (backToKw pos (keywordEach kws X.env)).any (·.1.isNone)) = false := by rfl) :
    PE X (.Call (.Name x p) (e :: es) kws pos) (tMakeK C n ks.length sp gV E t tk) := by
  obtain ⟨f, fd, ps, g, g1, g2, g3, g4⟩ := G.ex
  exact pe_makeK g2 g4 (hr.mono hk) hg g1 g3 hx ha hkw hall hks hdb he hpl
end
section
variable {P : Program} {w : World} {K : PySem.W.Frag} {mg : Str → Option Value} {base : Heap} {x qual : Str} {params : Arguments} {body : List Stmt} {scope : Scope} {dvs : List V} {kws : List (Str × V)} {f : Addr} {fd : FuncData}
/-- a def that lets nothing out -/
theorem ok0 {N ps : List Str} {k : Nat} {sp : Sp} (F : FunD K x qual params body scope dvs kws f fd) (S : FnScope N ps scope) (len : ∀ vs H Q E, sp vs H Q E → vs.length = ps.length)
    (hbody : ∀ (cdv : Value) (A : Around) (outer : List Env) (s : Shared) (H : Hp) (vs : List V) (Q : VK) (E : XK), Room k (A.deeper (envOfC qual scope s.heap.objs.size f cdv)) → sp vs H Q E →
      ∃ t, PSs (cxOf CX0 P w K mg base N qual scope f cdv A outer s H E).nox body t ∧ t { nx := fun _ H' => Q .non H', rt := Q } (start N vs) H) : FnOk P w K mg base CX0 (k + 1) f fd ps sp :=
  F.ok S len fun cdv A outer s H vs Q E hr h => let ⟨t, a, b⟩ := hbody cdv A outer s H vs Q E hr h; ⟨t, a.nox, b⟩
end

/-! ### code that is not come to -/
section
variable {X : Cx} {e : Expr} {es : List Expr}
def tNo : TE := fun _ _ _ => False
theorem pe_no : PE X e tNo := ⟨fun _ _ _ _ _ _ h => h.elim⟩
def tNoT : TT := fun _ _ _ => False
theorem pt_no : PT X e tNoT := ⟨fun _ _ _ _ _ _ h => h.elim⟩
def gNo : TG := fun _ _ _ _ => False
theorem pg_no : PG X e gNo := ⟨fun _ _ _ _ _ _ _ _ _ h => h.elim⟩
end

/-! ### a walk over a list or a tuple -/
def iSeq (K : PySem.W.Frag) (tl : TE) : TI := fun σ H R => tl σ H fun x H1 => ∃ a, x = .ref a ∧ ((∃ xs, SqL K H1 a xs ∧ R (Itl K a) H1) ∨ (∃ xs, SqT K H1 a xs ∧ R (Itt K a) H1))
theorem pi_seq {X : Cx} {tg l : Expr} {tl : TE} (hl : PE X l tl) : PI X tg l (iSeq X.K tl) := by
  refine ⟨fun pins s σ H R I h => ?_⟩
  refine thn (hl.run pins s σ H _ I h) fun v s1 hv => ?_
  obtain ⟨x, H1, I1, r1, a, ex, q⟩ := hv
  subst ex
  cases r1
  have new : ∀ {o : Obj}, o.isFreed = false → (s1.heap.push o).get? s1.heap.objs.size = some o := fun h => Heap.get?_push_size _ h
  have up : ∀ (o : Obj) b u, s1.heap.get? b = some u → (s1.heap.push o).get? b = some u := fun o b u z => Heap.get?_push_of_some _ z
  have fp : ∀ b ∈ [s1.heap.objs.size], FpOk X pins H1 b := fun b hb => by
    have z : b = s1.heap.objs.size := by simpa using hb
    rw [z]
    exact I1.fpOk (Nat.le_refl _) (I1.hok.fresh (Nat.le_refl _))
  rcases q with ⟨xs, hq, q⟩ | ⟨xs, hq, q⟩
  · obtain ⟨its, rv, pl, hz⟩ := I1.list hq
    refine wpAny_pyIter_list pl.isList ?_
    exact ⟨s1.heap.objs.size, [s1.heap.objs.size], _, _, H1, rfl, I1.kept (t' := s1.toks) (up _), turn_list a _, ⟨_, new rfl, rfl, rfl⟩, fp, q⟩
  · obtain ⟨its, rv, pl, hz⟩ := I1.tuple hq
    refine wpAny_pyIter_tuple (show s1.heap.IsTuple a its.toArray from pl) ?_
    exact ⟨s1.heap.objs.size, [s1.heap.objs.size], _, _, H1, rfl, I1.kept (t' := s1.toks) (up _), turn_tuple a _, ⟨_, new rfl, rfl, rfl⟩, fp, q⟩

/-! ### long chains of comparisons, as tests -/
structure PTC (X : Cx) (ops : List CmpOp) (es : List Expr) (t : V → TT) : Prop where
  run : ∀ (pos : Pos) (pins : List (Addr × Obj)) (s : Shared) (σ : L2.St) (H : Hp) (x : V) (a : Value) (Q : Bool → Hp → Prop), Inv X pins σ H s → RelV x a → t x σ H Q →
    wpAny (model X.prog X.w) X.A (testChain pos a ops (evalEach es X.env)) (TP X pins σ Q) X.xe s
section
variable {X : Cx} {op op1 : CmpOp} {ops : List CmpOp} {r : R2} {a b c : Expr} {es : List Expr} {ta tb : TE} {t : V → TT} {pos : Pos}
def tcLast (r : R2) (tb : TE) : V → TT := fun x σ H Q => tb σ H fun y H2 => r x y H2 fun z H3 => ∃ k, z = .bl k ∧ Q k H3
def tcLink (r : R2) (tb : TE) (t : V → TT) : V → TT := fun x σ H Q => tb σ H fun y H2 => r x y H2 fun z H3 => ∃ k, z = .bl k ∧ if k = true then t y σ H3 Q else Q false H3
theorem ptc_last (ho : OpR X (compareOp op) r) (hb : PE X b tb) : PTC X [op] [b] (tcLast r tb) := by
  refine ⟨fun pos pins s σ H x av Q I rx h => ?_⟩
  show wpAny _ _ (testChain pos av [op] [eval b X.env]) _ _ _
  refine test_last (thn (hb.run pins s σ H _ I h) fun u s1 hu => ?_)
  obtain ⟨y, H1, I1, r1, q1⟩ := hu
  refine thn (ho pins s1 σ H1 x y av u _ I1 rx r1 q1) fun d s2 hd => ?_
  obtain ⟨z, H2, I2, r2, k, e, q2⟩ := hd
  subst e
  cases r2
  exact wpAny_truthy_bool ⟨H2, I2, q2⟩
theorem ptc_link (ho : OpR X (compareOp op) r) (hb : PE X b tb) (hr : PTC X (op1 :: ops) (c :: es) t) : PTC X (op :: op1 :: ops) (b :: c :: es) (tcLink r tb t) := by
  refine ⟨fun pos pins s σ H x av Q I rx h => ?_⟩
  show wpAny _ _ (testChain pos av (op :: op1 :: ops) (eval b X.env :: eval c X.env :: evalEach es X.env)) _ _ _
  refine test_link (thn (hb.run pins s σ H _ I h) fun u s1 hu => ?_)
  obtain ⟨y, H1, I1, r1, q1⟩ := hu
  refine thn (ho pins s1 σ H1 x y av u _ I1 rx r1 q1) fun d s2 hd => ?_
  obtain ⟨z, H2, I2, r2, k, e, q2⟩ := hd
  subst e
  cases r2
  refine wpAny_truthy_bool ?_
  cases k with
  | false => exact ite_ff ⟨H2, I2, q2⟩
  | true => exact ite_tt (hr.run pos pins s2 σ H2 y u Q I2 r1 q2)
def tChn (ta : TE) (t : V → TT) : TT := fun σ H Q => ta σ H fun x H1 => t x σ H1 Q
theorem pt_chn (ha : PE X a ta) (h : PTC X (op :: op1 :: ops) (b :: c :: es) t) (hm : lastMarks (op :: op1 :: ops) (b :: c :: es) = false := by with_unfolding_all rfl) :
    PT X (.Compare a (op :: op1 :: ops) (b :: c :: es) pos) (tChn ta t) := by
  refine ⟨fun pins s σ H Q I hq => ?_⟩
  refine isTrue_chain (thn (ha.run pins s σ H _ I hq) fun v s1 hv => ?_) hm
  obtain ⟨x, H1, I1, r1, q1⟩ := hv
  exact h.run pos pins s1 σ H1 x v Q I1 r1 q1
end

/-! ### name = [f(x) for x in ..], where f may raise -/
section
variable {X : Cx}
/-- where a comprehension's error goes -/
def outOf (X : Cx) (ce : Env) : Value → Shared → Prop := notedBy (model X.prog X.w) X.A ce (CompFails (model X.prog X.w) X.A X.xe ce)
theorem errMon {base B' h : Heap} {l : List Env} {e L : Addr} {Z : Obj → Prop} (x : HandSPX.HeldZ base l e Z L h) (sub : ∀ b o, B'.get? b = some o → base.get? b = some o) : HandSPX.HeldZ B' l e Z L h := by
  obtain ⟨f1, f2, f3, oe, vs, T, oT, ts, g1, g2, g3, g4, g5, g6, g7, g8, g9⟩ := x
  have nn : ∀ b, base.get? b = none → B'.get? b = none := fun b hb => by
    cases q : B'.get? b with
    | none => rfl
    | some o =>
      have z := sub b o q
      rw [hb] at z
      cases z
  exact ⟨fun b o z => f1 b o (sub b o z), nn _ f2, funFrames_none f3 fun b hb => nn b (f3.mem hb).1, oe, vs, T, oT, ts, g1, g2, g3, g4, nn _ g5, g6, g7, g8, g9⟩
/-- the frame's record of names has been let go: the flight is as it was -/
theorem errLet {base h h2 : Heap} {l : List Env} {e L C : Addr} {Z : Obj → Prop} {m m2 : Str → Option Value} (x : HandSPX.HeldZ base l e Z L h) (hn : h.Ns C m) (hn2 : h2.Ns C m2) (hb : base.get? C = none) (sb : Heap.SameBut C h h2) : HandSPX.HeldZ base l e Z L h2 := by
  obtain ⟨f1, f2, f3, oe, vs, T, oT, ts, g1, g2, g3, g4, g5, g6, g7, g8, g9⟩ := x
  obtain ⟨oC, es, ep, hC, hdC, _⟩ := hn
  have ne1 : e ≠ C := fun z => by
    rw [z, hC] at g1
    cases g1
    rw [hdC] at g3
    cases g3
  have ne2 : T ≠ C := fun z => by
    rw [z, hC] at g7
    cases g7
    rw [hdC] at g8
    cases g8
  refine ⟨fun b o z => (sb.2 b fun q => ?_).trans (f1 b o z), f2, Heap.FunFrames.sameBut sb hn2 f3, oe, vs, T, oT, ts, (sb.2 e ne1).trans g1, g2, g3, g4, g5, g6, (sb.2 T ne2).trans g7, g8, g9⟩
  rw [q, hb] at z
  cases z
theorem lcx_out {E : XK} {scope : Scope} {ce : Env} {fp : List Addr} {s3 : Shared} {H3 : Hp} {pins : List (Addr × Obj)} {σ : L2.St} (tk : Takes X (fun cls d _ H => E cls d H)) (hs : X.stack = X.env :: X.outer) (hf : X.env.frame = some X.env.locals)
    (hcf : ce.frame = X.env.frame) (hcl : ce.locals = s3.heap.objs.size) (I3 : Inv X pins σ H3 s3) (f3 : ∀ b ∈ fp, FpOk X pins H3 b) :
    Passes (L2.CX X.prog X.w) ((X.blk s3 H3 scope ce fp).wish (outOf X ce)) E := by
  intro pins' σ' H s ev s' I c
  have fl0 : ∃ (a : Addr) (B : Heap) (Z : Obj → Prop), ev = .ref a ∧ HandSPX.FlyingZ B X.stack a Z s'.heap := by
    obtain ⟨a, B, H', cls, d, ea, fl, _⟩ := c
    exact ⟨a, B, _, ea, fl⟩
  have xx := XE.of_call (W := fun cls d _ H' => E cls d H') I (fun _ _ _ h => h) c
  obtain ⟨a, B, sI, pi, σ1, H', cls, d, ea, J, nb, up, sky, na, os, ag, w⟩ := xx
  obtain ⟨a0, B0, Z0, ea0, fl0⟩ := fl0
  have eaa : a = a0 := by
    rw [ea] at ea0
    exact Value.ref.inj ea0
  subst eaa
  subst ea
  obtain ⟨p1, p2, p3, oe0, vs0, T0, oT0, ts0, q1, q2, q3, q4, q5, q6, q7, q8, q9⟩ := fl0
  -- it is in flight
  have fl : HandSPX.FlyingZ B X.stack a (Zc cls d) s'.heap := by
    rcases sky with ⟨_, _, _, oe, vs, r1, _, r3, r4⟩ | fl | ⟨_, _, _, oe, vs, T, oT, ts, r1, _, r3, r4, _, _, r7, r8, r9⟩
    · rw [q1] at r1
      cases r1
      rw [q3] at r3
      cases r3
      rw [q4] at r4
      cases r4
    · exact fl
    · rw [q1] at r1
      cases r1
      rw [q3] at r3
      cases r3
      rw [q4] at r4
      cases r4
      rw [q7] at r7
      cases r7
      rw [q8] at r8
      cases r8
      rw [q9] at r9
      cases r9
  have hfr : X.A.frames = some (X.env :: X.outer) := by
    rw [← hs]
    exact I3.ok.frames
  -- the block's own record
  obtain ⟨m, hn, _⟩ := J.loc
  have hn : sI.heap.Ns ce.locals m := hn
  have nfr : ∀ b ∈ frs X.stack, b < s3.heap.objs.size := fun b hb => by
    obtain ⟨_, o, ho, _⟩ := I3.stack.mem hb
    exact Heap.lt_size ho
  have cfr : ce.locals ∉ frs X.stack := fun z => by
    have y := nfr _ z
    rw [hcl] at y
    exact absurd y (Nat.lt_irrefl _)
  have JX : Inv X pins σ H' sI := I3.call' (ch := fp) J.os J.base J.hok J.bare fun b hb => ⟨(f3 b hb).2.2.2.1, (f3 b hb).2.1, (f3 b hb).2.2.2.2.1, (f3 b hb).2.2.2.2.2⟩
  have nC : H' s3.heap.objs.size = none := by
    have z : H' ce.locals = none := J.free
    rw [hcl] at z
    exact z
  have fC := I3.fpOk (H' := H') (Nat.le_refl _) nC
  -- the ground and the state, without that record
  obtain ⟨B', b1, b2⟩ := restrict B fun b => decide (b ≠ ce.locals)
  have sub : ∀ b o, B'.get? b = some o → B.get? b = some o := fun b o z => by
    by_cases hb : b = ce.locals
    · rw [b2 b (decide_eq_false fun y => y hb)] at z
      cases z
    · rw [← b1 b (decide_eq_true hb)]
      exact z
  obtain ⟨G, g1, g2⟩ := restrict sI.heap fun b => decide (b ≠ ce.locals)
  have gk : ∀ b, b ≠ ce.locals → G.get? b = sI.heap.get? b := fun b hb => g1 b (decide_eq_true hb)
  have IG : Inv X pins σ H' { sI with heap := G, toks := sI.toks } := by
    obtain ⟨c0, c1, c2, c3, c4, c5⟩ := fC
    exact JX.turned (it := s3.heap.objs.size) (fun b o hb z => (gk b (by rw [hcl]; exact hb)).trans z) c0 c1 c3 c4 c5
  show wpAny (model X.prog X.w) X.A (noteFrame (.ref a) ce) _ _ s'
  rw [noteFrame_env _ hcf]
  refine HandSPX.looks_onZ Zc.steady hfr hf (by rw [← hs]; exact fl) fun h1 hh up1 => ?_
  have hn1 : h1.Ns ce.locals m := by
    have z := Heap.Ns.upToSlots hn (fun b o z y => up b o z y)
    exact Heap.Ns.upToSlots (h := s'.heap) (by
      obtain ⟨oC, es, ep, hC, hdC, r⟩ := hn
      obtain ⟨sl, e1⟩ := up _ _ hC fun vs q => by rw [hdC] at q; cases q
      exact ⟨_, es, ep, e1, hdC, r⟩) fun b o z y => up1 b o z y
  refine ⟨m, hn1, fun h2 m2 hn2 sb => ?_⟩
  have hh' : HandSPX.HeldZ B' (X.env :: X.outer) a (Zc cls d) X.env.locals h1 := errMon hh sub
  have hh2 : HandSPX.HeldZ B' (X.env :: X.outer) a (Zc cls d) X.env.locals h2 := errLet hh' hn1 hn2 (b2 _ (decide_eq_false fun y => y rfl)) sb
  obtain ⟨x1, x2, x3, oe, vs, T, oT, ts, y1, y2, y3, y4, yr⟩ := id hh2
  unfold PySem.passOn
  refine wpAny_bind (wpAny_field y1 y3 y4 ?_)
  rw [if_neg (show ¬ ((Value.ref T == Value.none) = true) from by simp), hcf, hf]
  have fin : wpAny (model X.prog X.w) X.A (setFlight (.ref a) (some X.env.locals)) (fun _ s4 => wpAny (model X.prog X.w) X.A (throw (.ref a) : Sem Value) (fun _ _ => False) X.xe s4) X.xe { s' with heap := h2 } := by
    refine HandSPX.setFlight_onZ hh2 fun h4 hh4 up4 => wpAny_throw (tk _ _ ?_)
    refine ⟨a, B', { sI with heap := G, toks := sI.toks }, pins, σ, H', cls, d, rfl, IG, fun b o z hb => ?_, fun b o z y => ?_, .inr (.inr (by rw [hs]; exact hh4)), na, os, ag, w⟩
    · have hb' : b ≠ ce.locals := fun y => by
        have z' : G.get? b = some o := z
        rw [y, g2 _ (decide_eq_false fun q => q rfl)] at z'
        cases z'
      have z' : sI.heap.get? b = some o := (gk b hb').symm.trans z
      rw [b1 b (decide_eq_true hb')]
      exact nb b o z' hb
    · have hb' : b ≠ ce.locals := fun q => by
        have z' : G.get? b = some o := z
        rw [q, g2 _ (decide_eq_false fun q => q rfl)] at z'
        cases z'
      have z' : sI.heap.get? b = some o := (gk b hb').symm.trans z
      obtain ⟨l1, e1⟩ := up b o z' y
      obtain ⟨l2, e2⟩ := up1 b _ e1 y
      obtain ⟨l3, e3⟩ := up4 b _ ((sb.2 b hb').trans e2) y
      exact ⟨l3, e3⟩
  first
    | exact wpAny_bind fin
    | exact wpAny_bind (wpAny_pure (wpAny_bind fin))
/-- the state's own part of a block's context, with another wish -/
abbrev blkE (X : Cx) (s : Shared) (H : Hp) (scope : Scope) (ce : Env) (fp : List Addr) : Cx := (X.blk s H scope ce fp).wish (outOf X ce)
theorem mono2 {α : Type} {M : Model} {A : Around} {t : Sem α} {Q Q' : α → Shared → Prop} {E : Value → Shared → Prop} {s : Shared} (h : wpAny M A t Q E s) (k : ∀ a s, Q a s → Q' a s) : wpAny M A t Q' E s := wpAny_mono h k fun _ _ z => z
theorem ps_setLcX {E : XK} {i : Nat} {y : Str} {py : Pos} {elt tg iter : Expr} {scope : Scope} {own : List (Str × Nat)} {pos spos : Pos} {wi : TI} {g : TG} {te : TE} (tk : Takes X (fun cls d _ H => E cls d H)) (hs : X.stack = X.env :: X.outer) (hf : X.env.frame = some X.env.locals)
    (hc : X.calm = true) (hN : X.N.Nodup) (hy : X.N[i]? = some y) (hyl : X.env.scope.names.lookup y = some .local)
    (hsw : swapsWith (.ListComp elt [⟨tg, iter, [], 0⟩] scope pos) (some (.Name y py)) spos.line X.env = pure true) (hi : PI X tg iter wi) (ok : BlkOk X.N X.env.scope scope own)
    (hg : ∀ (s : Shared) (H : Hp) (C : Addr) (cl : List (Str × Addr)) (fp : List Addr), PG (blkE X s H scope (compEnvC scope cl C X.env) fp) tg g)
    (he : ∀ (s : Shared) (H : Hp) (C : Addr) (cl : List (Str × Addr)) (fp : List Addr), Passes (L2.CX X.prog X.w) (blkE X s H scope (compEnvC scope cl C X.env) fp) E → PE (blkE X s H scope (compEnvC scope cl C X.env) fp) elt te)
    (hfs : ∀ x, foldedSetIterable iter X.env x = pure x := by intro _; rfl) : PS X (.Assign [.Name y py] (.ListComp elt [⟨tg, iter, [], 0⟩] scope pos) spos) (tAsg (tLc wi g tYes te (own.map (·.2))) (gName i)) := by
  refine ⟨fun pins s0 σ H0 D I0 h0 => ?_⟩
  rw [exec_Assign_Name_used _ _ _ _ hsw]
  refine wpAny_bind (wpAny_standAt (wpAny_bind ?_))
  show wpAny _ X.A (do let _ ← comprehension (.ListComp elt [⟨tg, iter, [], 0⟩] scope pos) scope X.env (firstIterPos [⟨tg, iter, [], 0⟩] pos) (newList []) false (eval iter X.env) (some (assign (.Name y py) X.env))) _ _ s0
  have caps : ∀ z ∈ scope.names, z.2 = .free → ∃ c, X.env.cells.lookup z.1 = some c := fun z hz e => (ok.free z hz e).elim (fun k => I0.ok.has _ (.inl k)) fun k => I0.ok.has _ (.inr k)
  refine wpAny_bind (mono2 (Q := fun _ s' => SP X pins D .next s') ?_ fun _ s' q => wpAny_pure (wpAny_pure q))
  have h1 : tLc wi g tYes te (own.map (·.2)) σ H0 (fun x H1 => gName i x σ H1 D.nx) := h0
  refine comprehension_at (use := some (assign (.Name y py) X.env)) rfl hfs (closure_ok caps) ok.kind (fun z hz e => by rw [ok.uniq z hz, e])
    (mono2 (hi.run pins s0 σ H0 _ I0 h1) fun xv sa ha => mono2 ha fun itv sb hb => ?_)
  obtain ⟨it, fp, tn, J, Hb, eit, Ib, T, t0, fb, q⟩ := hb
  subst eit
  refine wpAny_newObj_type (newEnv_comp ?_) (by show 0 ≤ sizeLine; decide)
  obtain ⟨L, eL⟩ : ∃ L, L = sb.heap.objs.size := ⟨_, rfl⟩
  rw [← eL]
  have nL : Hb L = none := Ib.hok.fresh (Nat.le_of_eq eL.symm)
  obtain ⟨W, ⟨m0, w0⟩, turn⟩ := q L nL
  obtain ⟨sc, esc⟩ : ∃ sc : Shared, sc = { sb with heap := sb.heap.push { cls := .type "list", data := .seq ([] : List Value).toArray } } := ⟨_, rfl⟩
  have hsc : sc.heap = sb.heap.push { cls := .type "list", data := .seq ([] : List Value).toArray } := by rw [esc]
  have Ic : Inv X pins σ (upd Hb L (.lst [])) sc := by
    rw [esc]
    refine Ib.laid (t' := sb.toks) (fun b o z => Heap.get?_push_of_some _ z) (Nat.le_of_eq eL.symm) ⟨Nat.zero_le _, [], 0, .nil, ?_⟩
    rw [eL]
    exact Heap.get?_push_size _ rfl
  rw [← esc]
  have old : ∀ b ∈ fp, b < sb.heap.objs.size := fun b hb => by
    obtain ⟨o, z, _⟩ := T.obj _ _ t0 b hb
    exact Heap.lt_size z
  have fc : ∀ b ∈ fp, FpOk X pins (upd Hb L (.lst [])) b ∧ b < sc.heap.objs.size := fun b hb => by
    have lt := old b hb
    refine ⟨⟨?_, (fb b hb).2⟩, by rw [hsc, Heap.size_push]; exact Nat.lt_succ_of_lt lt⟩
    rw [upd_ne (by rw [eL]; exact Nat.ne_of_lt lt)]
    exact (fb b hb).1
  have t1 : tn 0 sc.heap := T.keep _ _ _ t0 fun b _ o z => by
    rw [hsc]
    exact Heap.get?_push_of_some _ z
  have Id := block_start Ic ok hN fc
  have pg := hg sc (upd Hb L (.lst [])) sc.heap.objs.size (cellsFrom (sc.heap.objs.size + 1) scope.names (cloFrom X.env.cells scope.names [])) fp
  have pe := he sc (upd Hb L (.lst [])) sc.heap.objs.size (cellsFrom (sc.heap.objs.size + 1) scope.names (cloFrom X.env.cells scope.names [])) fp
    (lcx_out tk hs hf rfl rfl Ic fun b hb => (fc b hb).1)
  show codeAny _ _ (.compStart (.ListComp elt [⟨tg, iter, [], 0⟩] scope pos) 0 (.ref it) (.ref L) (compEnvC scope (cellsFrom (sc.heap.objs.size + 1) scope.names (cloFrom X.env.cells scope.names [])) sc.heap.objs.size X.env))
    (compEnds (model X.prog X.w) X.A X.xe (some (assign (.Name y py) X.env)) (fun _ s' => SP X pins D .next s') (.ref L) (compEnvC scope (cellsFrom (sc.heap.objs.size + 1) scope.names (cloFrom X.env.cells scope.names [])) sc.heap.objs.size X.env)) { sc with heap := pushCells (sc.heap.push { cls := .type "dict", data := .dict #[] }) scope.names }
  obtain ⟨ce, ece⟩ : ∃ ce, ce = compEnvC scope (cellsFrom (sc.heap.objs.size + 1) scope.names (cloFrom X.env.cells scope.names [])) sc.heap.objs.size X.env := ⟨_, rfl⟩
  rw [← ece] at Id pg pe ⊢
  have cL : ce.locals = sc.heap.objs.size := by
    rw [ece]
    rfl
  obtain ⟨Hc, eHc⟩ : ∃ Hc, Hc = upd Hb L (.lst []) := ⟨_, rfl⟩
  rw [← eHc] at Ic Id pg pe w0 fc
  have nf : ∀ b ∈ fp, Hc b = none := fun b hb => (fc b hb).1.1
  obtain ⟨sd, esd⟩ : ∃ sd : Shared, sd = { sc with heap := pushCells (sc.heap.push { cls := .type "dict", data := .dict #[] }) scope.names } := ⟨_, rfl⟩
  rw [← esd] at Id ⊢
  have Id := Id.wish (outOf X ce)
  have t2 : tn 0 sd.heap := T.keep _ _ _ t1 fun b _ o z => by
    rw [esd]
    exact pushCells_keeps _ _ _ _ (Heap.get?_push_of_some _ z)
  have stat : ∀ {σ' : L2.St} {H' : Hp} {s' : Shared}, Inv (blkE X sc Hc scope ce fp) [] σ' H' s' → (∀ b ∈ fp, H' b = none) → ∀ b ∈ fp, FpOk (blkE X sc Hc scope ce fp) [] H' b := fun {σ' H' s'} I' hn b hb =>
    ⟨hn b hb, (I'.ok.exf b hb).1, I'.ok.exfs b hb, .inl hb, fun x c z => (I'.ok.exf b hb).2 x c z, fun p hp => absurd (show p ∈ ([] : List (Addr × Obj)) ++ [] from hp) (by simp)⟩
  have loop : codeAny (model X.prog X.w) X.A (.compLoop (.ListComp elt [⟨tg, iter, [], 0⟩] scope pos) 0 (.ref it) (.ref L) ce)
      (compEnds (model X.prog X.w) X.A X.xe (some (assign (.Name y py) X.env)) (fun _ s' => SP X pins D .next s') (.ref L) ce) sd := by
    refine compLoop_any (fun n s' => ∃ k H', Inv (blkE X sc Hc scope ce fp) [] (wipe σ (own.map (·.2))) H' s' ∧ tn k s'.heap ∧ (∀ b ∈ fp, H' b = none) ∧ W k n H') ?_ m0 ⟨0, Hc, Id, t2, nf, w0⟩
    rintro n se ⟨k, He, Ie, te1, ne1, we⟩
    rcases turn k n He we with ⟨stop, qq⟩ | ⟨go, Nx, hNx, step⟩
    · refine mono2 (T.done (blkE X sc Hc scope ce fp) rfl rfl rfl hc k [] se _ He (outOf X ce) Ie (stat Ie ne1) te1 stop) fun r sf hsf => ?_
      obtain ⟨hr, If⟩ := hsf
      subst hr
      have IX : Inv X pins σ He sf := Ic.call' (ch := fp) If.os If.base If.hok If.bare fun b hb => ⟨(fc b hb).1.2.2.2.1, (fc b hb).1.2.1, (fc b hb).1.2.2.2.2.1, (fc b hb).1.2.2.2.2.2⟩
      have nC : He sc.heap.objs.size = none := by
        have z : He ce.locals = none := If.free
        rw [cL] at z
        exact z
      obtain ⟨m, hn, _⟩ := If.loc
      have hn : sf.heap.Ns ce.locals m := hn
      have fC := Ic.fpOk (H' := He) (Nat.le_refl _) nC
      show wpAny _ _ (assign (.Name y py) X.env (.ref L)) _ _ _
      refine wpAny_assign_Name (store_ok2 (v := V.ref L) IX hN hy (.inl hyl) rfl (fun sg Ig hg => ?_) (.inr hyl))
      obtain ⟨a, sb, ha⟩ := hg
      obtain ⟨c0, c1, c2, c3, c4, c5⟩ := fC
      have neC : ce.locals ≠ a := by
        rw [cL]
        rcases ha with z | z
        · rw [z]
          exact c1
        · exact fun e => c4 y a z e.symm
      refine ⟨m, hn.sameBut sb neC, fun h' sb' => ?_⟩
      exact ⟨_, He, Ig.turned (it := sc.heap.objs.size) (t' := sg.toks) (fun b o hb z => (sb'.2 b (by rw [cL]; exact hb)).trans z) c0 c1 c3 c4 c5, qq⟩
    · refine mono2 (T.item (blkE X sc Hc scope ce fp) rfl rfl rfl hc k [] se _ He (outOf X ce) Ie (stat Ie ne1) te1 go) fun r sf hsf => ?_
      obtain ⟨u, hr, hsf⟩ := hsf
      subst hr
      refine mono2 hsf fun _ sg hsg => ?_
      obtain ⟨x, Hg, Ig, rg, yg, tg1, ng⟩ := hsg
      have Ip := Ig.pinned (stat Ig ng) (T.obj _ _ tg1)
      refine mono2 (pg.run _ sg _ Hg x u _ Ip rg (step x Hg yg)) fun _ sh hsh => ?_
      obtain ⟨σh, Hh, Ih, ew, qh⟩ := hsh
      refine wpAny_tests_nil ?_
      show (if true = true then _ else _)
      rw [if_pos rfl]
      have qh : te σh Hh fun z H4 => ∃ acc, H4 L = some (.lst acc) ∧ acc.length < sizeLine ∧ Nx (upd H4 L (.lst (acc ++ [z]))) := qh
      refine mono2 (pe.run _ sh σh Hh _ Ih qh) fun z sj hsj => ?_
      obtain ⟨zv, Hj, Ij, rj, acc, hL, hz, nx⟩ := hsj
      refine app_ok (X := blkE X sc Hc scope ce fp) Ij hL hz rj fun sk Ik => ?_
      obtain ⟨m', hm, w'⟩ := hNx _ nx
      have pin : ∀ b ∈ fp, ∀ o, sg.heap.get? b = some o → sk.heap.get? b = some o ∧ (upd Hj L (.lst (acc ++ [zv]))) b = none := fun b hb o q =>
        let v := Ik.pin (b, o) (List.mem_append_right _ (List.mem_append_right _ (mem_pinsAt hb q)))
        ⟨v.1, v.2.1⟩
      refine ⟨m', hm, k + 1, _, (Ik.unpinned (pins := [])).weak (by rw [← ew, wipe_length]) (fun j v q => ?_), T.keep _ _ _ tg1 fun b hb o q => (pin b hb o q).1, fun b hb => ?_, w'⟩
      · rw [← ew] at q
        exact (wipe_some q).1
      · obtain ⟨o, q, _⟩ := T.obj _ _ tg1 b hb
        exact (pin b hb o q).2
  exact codeAny_compStart_list loop (T.self X.A 0 _ _ _ t2 loop)
end
end Fl
set_option Elab.async false
set_option linter.all false
set_option maxRecDepth 100000
set_option maxHeartbeats 4000000
/-! Steps through readings; what stands in the heap as data. -/
namespace Fl
open PySem PySem.Spec PyProof.Rows L2
section
variable {σ : L2.St} {H H' H1 H2 : Hp} {Q : VK} {D : Ends} {K : PySem.W.Frag} {ta tb te : TE} {x y v : V}
theorem x_seq {t u : TS} (h : t ⟨u D, D.rt, D.bk, D.ct⟩ σ H) : tSeq t u D σ H := h
theorem x_nx {a : L2.St → Hp → Prop} {b : VK} {c d : L2.St → Hp → Prop} (h : a σ H) : Ends.nx ⟨a, b, c, d⟩ σ H := h
theorem x_rt {a : L2.St → Hp → Prop} {b : VK} {c d : L2.St → Hp → Prop} (h : b v H) : Ends.rt ⟨a, b, c, d⟩ v H := h
theorem x_bk {a : L2.St → Hp → Prop} {b : VK} {c d : L2.St → Hp → Prop} (h : c σ H) : Ends.bk ⟨a, b, c, d⟩ σ H := h
theorem x_ct {a : L2.St → Hp → Prop} {b : VK} {c d : L2.St → Hp → Prop} (h : d σ H) : Ends.ct ⟨a, b, c, d⟩ σ H := h
theorem x_next (h : D.nx σ H) : tNext D σ H := h
theorem x_asg {g : TG} (h : te σ H fun x H1 => g x σ H1 D.nx) : tAsg te g D σ H := h
theorem x_name {i : Nat} {P : L2.St → Hp → Prop} (h : P (σ.set i (some v)) H) : gName i v σ H P := h
theorem x_c (h : Q v H) : tC v σ H Q := h
theorem x_op {r : R2} (h : ta σ H fun x H1 => tb σ H1 fun y H2 => r x y H2 Q) : tOp r ta tb σ H Q := h
theorem x_un {r : V → Hp → VK → Prop} (h : ta σ H fun x H1 => r x H1 Q) : tUn r ta σ H Q := h
theorem x_ret (h : te σ H D.rt) : tRet te D σ H := h
theorem x_retN (h : D.rt .non H) : tRetN D σ H := h
theorem x_drop (h : te σ H fun _ H1 => D.nx σ H1) : tDrop te D σ H := h
theorem x_ifS {c : TT} {t u : TS} (h : c σ H fun b H1 => if b = true then t D σ H1 else u D σ H1) : tIfS c t u D σ H := h
theorem x_test {Q : Bool → Hp → Prop} {t : TE} (h : t σ H fun z H' => ∃ k, z = .bl k ∧ Q k H') : tTest t σ H Q := h
theorem x_tB {Q : Bool → Hp → Prop} {t : TE} (h : t σ H fun z H' => ∃ k, z = .bl k ∧ Q k H') : tB t σ H Q := h
theorem x_not {Q : Bool → Hp → Prop} {t : TT} (h : t σ H fun c H1 => Q (!c) H1) : tNot t σ H Q := h
theorem x_and {Q : Bool → Hp → Prop} {t u : TT} (h : t σ H fun c H1 => if c = true then u σ H1 Q else Q false H1) : tAnd t u σ H Q := h
theorem x_or {Q : Bool → Hp → Prop} {t u : TT} (h : t σ H fun c H1 => if c = true then Q true H1 else u σ H1 Q) : tOr t u σ H Q := h
theorem x_andV (h : ta σ H fun x H1 => ∃ c, x = .bl c ∧ if c = true then tb σ H1 Q else Q (.bl false) H1) : tAndV ta tb σ H Q := h
theorem x_notV (h : ta σ H fun x H1 => ∃ c, x = .bl c ∧ Q (.bl (!c)) H1) : tNotV ta σ H Q := h
theorem x_chain {r r' : R2} {tc : TE} (h : ta σ H fun x H1 => tb σ H1 fun y H2 => r x y H2 fun z H3 => ∃ k, z = .bl k ∧ (if k = true then tc σ H3 fun w' H4 => r' y w' H4 Q else Q (.bl false) H3)) : tChain r r' ta tb tc σ H Q := h
theorem x_chn {Q : Bool → Hp → Prop} {t : V → TT} (h : ta σ H fun x H1 => t x σ H1 Q) : tChn ta t σ H Q := h
theorem x_link {Q : Bool → Hp → Prop} {r : R2} {t : V → TT} (h : tb σ H fun y H2 => r x y H2 fun z H3 => ∃ k, z = .bl k ∧ if k = true then t y σ H3 Q else Q false H3) : tcLink r tb t x σ H Q := h
theorem x_last {Q : Bool → Hp → Prop} {r : R2} (h : tb σ H fun y H2 => r x y H2 fun z H3 => ∃ k, z = .bl k ∧ Q k H3) : tcLast r tb x σ H Q := h
theorem x_bl {b : Bool} {P : Bool → Prop} (h : P b) : ∃ k, V.bl b = V.bl k ∧ P k := ⟨b, rfl, h⟩
theorem x_nil {Q : List V → Hp → Prop} (h : Q [] H) : tNil σ H Q := h
theorem x_cons {Q : List V → Hp → Prop} {tr : TA} (h : te σ H fun x H1 => tr σ H1 fun xs H2 => Q (x :: xs) H2) : tCons te tr σ H Q := h
theorem x_call {sp : Sp} {dvs : List V} {E : XK} {t : TA} (h : t σ H fun vs H1 => sp (vs ++ dvs) H1 Q E) : tCall sp dvs E t σ H Q := h
theorem x_CB {r : List V → Hp → VK → Prop} {t : TA} (h : t σ H fun vs H1 => r vs H1 Q) : tCB r t σ H Q := h
theorem x_eq (hs : scal x y = true) (h : Q (.bl (decide (x = y))) H) : rEq x y H Q := ⟨hs, h⟩
theorem x_ne (hs : scal x y = true) (h : Q (.bl (!decide (x = y))) H) : rNe x y H Q := ⟨hs, h⟩
theorem x_ixT {p : Addr} {xs : List V} {i : Int} (h : SqT K H p xs) (e : atI xs i = some v) (q : Q v H) : rIxT K (.ref p) (.int i) H Q := ⟨p, xs, i, v, rfl, rfl, h, e, q⟩
theorem x_ixL {p : Addr} {xs : List V} {i : Int} (h : SqL K H p xs) (e : atI xs i = some v) (q : Q v H) : rIxL K (.ref p) (.int i) H Q := ⟨p, xs, i, v, rfl, rfl, h, e, q⟩
theorem x_fld {f : Str} (h : ta σ H fun x H1 => ∃ a C dx fs v, x = .ref a ∧ H1 a = some (.ins C dx fs) ∧ Cls K C ∧ NoAttr K C f ∧ fs.lookup f = some v ∧ Q v H1) : tFld K ta f σ H Q := h
theorem x_at {P : V → Prop} {f : Str} {a C dx : Addr} {fs : List (Str × V)} (h : H a = some (.ins C dx fs)) (c : Cls K C) (n : NoAttr K C f) (l : fs.lookup f = some v) (q : P v) :
    ∃ a' C dx fs v, V.ref a = .ref a' ∧ H a' = some (.ins C dx fs) ∧ Cls K C ∧ NoAttr K C f ∧ fs.lookup f = some v ∧ P v := ⟨a, C, dx, fs, v, rfl, h, c, n, l, q⟩
theorem x_sfld {f : Str} (h : te σ H fun y H1 => ta σ H1 fun x H2 => ∃ a C dx fs, x = .ref a ∧ H2 a = some (.ins C dx fs) ∧ Cls K C ∧ NoAttr K C f ∧ fs.length < 1000 ∧ D.nx σ (upd H2 a (.ins C dx (putF f y fs)))) : sFld K ta te f D σ H := h
theorem x_new {o : HO} (h : ∀ p H', Same H H' → H p = none → H' p = some o → Q (.ref p) H') : ∀ p, H p = none → Q (.ref p) (upd H p o) := fun p np => h p _ (fun b u e => by
  rw [upd_ne (ne_of_none e np)]
  exact e) np upd_same
/-- a wish at a value: stands unreduced -/
def At (Q : VK) (v : V) (H : Hp) : Prop := Q v H
theorem x_tup {t : TA} (h : t σ H fun xs H1 => xs.length ≤ sizeLine ∧ ∀ p, H1 p = none → At Q (.ref p) (upd H1 p (.tup xs))) : tTup t σ H Q := h
theorem x_lst {t : TA} (h : t σ H fun xs H1 => xs.length ≤ sizeLine ∧ ∀ p, H1 p = none → At Q (.ref p) (upd H1 p (.lst xs))) : tLst t σ H Q := h
theorem x_disp {xs : List V} {o : HO} (z : xs.length ≤ sizeLine) (h : ∀ p H', Same H H' → H p = none → H' p = some o → Q (.ref p) H') : xs.length ≤ sizeLine ∧ ∀ p, H p = none → At Q (.ref p) (upd H p o) := ⟨z, x_new h⟩
theorem ifT {c : Prop} [Decidable c] {A B : Prop} (hc : c) (h : A) : if decide c = true then A else B := by
  rw [decide_eq_true hc]
  exact iteT h
theorem ifF {c : Prop} [Decidable c] {A B : Prop} (hc : ¬ c) (h : B) : if decide c = true then A else B := by
  rw [decide_eq_false hc]
  exact iteF h
theorem ifNT {c : Prop} [Decidable c] {A B : Prop} (hc : ¬ c) (h : A) : if (!decide c) = true then A else B := by
  rw [decide_eq_false hc]
  exact iteT h
theorem ifNF {c : Prop} [Decidable c] {A B : Prop} (hc : c) (h : B) : if (!decide c) = true then A else B := by
  rw [decide_eq_true hc]
  exact iteF h
theorem ifB {b : Bool} {A B : Prop} (h1 : b = true → A) (h2 : b = false → B) : if b = true then A else B := by
  cases b with
  | true => exact iteT (h1 rfl)
  | false => exact iteF (h2 rfl)
theorem ifD {c : Prop} [Decidable c] {A B : Prop} (h1 : c → A) (h2 : ¬ c → B) : if decide c = true then A else B := ifB (fun e => h1 (of_decide_eq_true e)) fun e => h2 (of_decide_eq_false e)
theorem ifNT' {A B : Prop} (h : A) : if (!false) = true then A else B := iteT h
theorem ifNF' {A B : Prop} (h : B) : if (!true) = true then A else B := iteF h
end
/-! heaps -/
theorem seqT {K : PySem.W.Frag} {H H' : Hp} {a : Addr} {xs : List V} (e : Same H H') (h : SqT K H a xs) : SqT K H' a xs := by
  rcases h with (h | ⟨o, h⟩) | h
  · exact .inl (.inl (e _ _ h))
  · exact .inl (.inr ⟨o, e _ _ h⟩)
  · exact .inr h
/-- a new object beside what was tracked at H -/
theorem same_new {H H1 : Hp} {p : Addr} {o : HO} (s : Same H H1) (n : H p = none) : Same H (upd H1 p o) := fun b u e => by
  rw [upd_ne (ne_of_none e n)]
  exact s b u e
theorem same_upd {H : Hp} {p : Addr} {o : HO} (n : H p = none) : Same H (upd H p o) := same_new (Same.refl H) n
theorem free_of {H H' : Hp} {p : Addr} (s : Same H H') (n : H' p = none) : H p = none := Same.free s n
mutual
theorem dp_same {K : PySem.W.Frag} {H H' : Hp} (e : Same H H') : ∀ (d : PyData) (v : V), Dp K H v d → Dp K H' v d
  | .none, _, h => by cases h; exact .non
  | .bool b, _, h => by cases h; exact .bl b
  | .int i, _, h => by cases h; exact .int i
  | .str x, _, h => by cases h; exact .str x
  | .list ds, _, h => by
    cases h with
    | lst hs ha => exact .lst (e.seq hs) (dps_same e ds _ ha)
  | .tuple ds, _, h => by
    cases h with
    | tup hs ha => exact .tup (seqT e hs) (dps_same e ds _ ha)
  | .dict _, _, h => by cases h
theorem dps_same {K : PySem.W.Frag} {H H' : Hp} (e : Same H H') : ∀ (ds : List PyData) (vs : List V), DpAll K H vs ds → DpAll K H' vs ds
  | [], _, h => by cases h; exact .nil
  | d :: ds, _, h => by
    cases h with
    | cons h1 h2 => exact .cons (dp_same e d _ h1) (dps_same e ds _ h2)
end
theorem _root_.L2.Same.dp {K : PySem.W.Frag} {H H' : Hp} {v : V} {d : PyData} (e : Same H H') (h : Dp K H v d) : Dp K H' v d := dp_same e d v h
theorem _root_.L2.Same.dps {K : PySem.W.Frag} {H H' : Hp} {vs : List V} {ds : List PyData} (e : Same H H') (h : DpAll K H vs ds) : DpAll K H' vs ds := dps_same e ds vs h
theorem dps_len {K : PySem.W.Frag} {H : Hp} : ∀ {vs : List V} {ds : List PyData}, DpAll K H vs ds → vs.length = ds.length
  | _, _, .nil => rfl
  | _, _, .cons _ t => congrArg Nat.succ (dps_len t)
theorem dps_get {K : PySem.W.Frag} {H : Hp} : ∀ {vs : List V} {ds : List PyData} {i : Nat} {v : V}, DpAll K H vs ds → vs[i]? = some v → ∃ d, ds[i]? = some d ∧ Dp K H v d
  | _, _, _, _, .nil, e => by simp at e
  | _, _, 0, _, .cons r _, e => by simp at e; subst e; exact ⟨_, rfl, r⟩
  | _, _, i + 1, v, .cons _ t, e => by
    obtain ⟨d, h1, h2⟩ := dps_get (i := i) (v := v) t (by simpa using e)
    exact ⟨d, by simpa using h1, h2⟩
theorem dps_at {K : PySem.W.Frag} {H : Hp} : ∀ {vs : List V} {ds : List PyData} {i : Nat} {d : PyData}, DpAll K H vs ds → ds[i]? = some d → ∃ v, vs[i]? = some v ∧ Dp K H v d
  | _, _, _, _, .nil, e => by simp at e
  | _, _, 0, _, .cons r _, e => by simp at e; subst e; exact ⟨_, rfl, r⟩
  | _, _, i + 1, d, .cons _ t, e => by
    obtain ⟨v, h1, h2⟩ := dps_at (i := i) (d := d) t (by simpa using e)
    exact ⟨v, by simpa using h1, h2⟩
theorem dps_snoc {K : PySem.W.Frag} {H : Hp} {v : V} {d : PyData} (h : Dp K H v d) : ∀ {vs : List V} {ds : List PyData}, DpAll K H vs ds → DpAll K H (vs ++ [v]) (ds ++ [d])
  | _, _, .nil => .cons h .nil
  | _, _, .cons r t => .cons r (dps_snoc h t)
theorem dp_lst {K : PySem.W.Frag} {H : Hp} {v : V} {ds : List PyData} (h : Dp K H v (.list ds)) : ∃ a xs, v = .ref a ∧ SqL K H a xs ∧ DpAll K H xs ds := by
  cases h with
  | lst hs ha => exact ⟨_, _, rfl, hs, ha⟩
theorem dp_tup {K : PySem.W.Frag} {H : Hp} {v : V} {ds : List PyData} (h : Dp K H v (.tuple ds)) : ∃ a xs, v = .ref a ∧ SqT K H a xs ∧ DpAll K H xs ds := by
  cases h with
  | tup hs ha => exact ⟨_, _, rfl, hs, ha⟩
theorem dp_int {K : PySem.W.Frag} {H : Hp} {v : V} {i : Int} (h : Dp K H v (.int i)) : v = .int i := by cases h; rfl
theorem dp_bl {K : PySem.W.Frag} {H : Hp} {v : V} {b : Bool} (h : Dp K H v (.bool b)) : v = .bl b := by cases h; rfl
theorem dps_nil {K : PySem.W.Frag} {H : Hp} {vs : List V} (h : DpAll K H vs []) : vs = [] := by cases h; rfl
theorem dps_cons {K : PySem.W.Frag} {H : Hp} {vs : List V} {d : PyData} {ds : List PyData} (h : DpAll K H vs (d :: ds)) : ∃ v r, vs = v :: r ∧ Dp K H v d ∧ DpAll K H r ds := by
  cases h with
  | cons a b => exact ⟨_, _, rfl, a, b⟩
/-- hands back new data d; all that was tracked stands -/
def Gives (K : PySem.W.Frag) (H : Hp) (Q : VK) (d : PyData) : Prop := ∀ v H', Same H H' → Dp K H' v d → Q v H'
theorem Gives.ahead {K : PySem.W.Frag} {H H1 : Hp} {Q : VK} {d : PyData} (g : Gives K H Q d) (s : Same H H1) : Gives K H1 Q d := fun v H' s' h => g v H' (s.trans s') h
/-- pairs, triples, fours of ints -/
def pD (p : Int × Int) : PyData := .tuple [.int p.1, .int p.2]
def t3D (t : Int × Int × Int) : PyData := .tuple [.int t.1, .int t.2.1, .int t.2.2]
def t4D (t : Int × Int × Int × Int) : PyData := .tuple [.int t.1, .int t.2.1, .int t.2.2.1, .int t.2.2.2]
def ptD (p : Int × Int × Bool) : PyData := .tuple [.int p.1, .int p.2.1, .bool p.2.2]
def conD (c : List (Int × Int × Bool)) : PyData := .list (c.map ptD)
def outD (o : List (List (Int × Int × Bool))) : PyData := .list (o.map conD)
def regD (r : List (Int × Int × Int)) : PyData := .list (r.map t3D)
theorem dp_pair {K : PySem.W.Frag} {H : Hp} {v : V} {p : Int × Int} (h : Dp K H v (pD p)) : ∃ a, v = .ref a ∧ SqT K H a [.int p.1, .int p.2] := by
  obtain ⟨a, xs, rfl, h1, h2⟩ := dp_tup h
  obtain ⟨x, r, rfl, hx, h2⟩ := dps_cons h2
  obtain ⟨y, r, rfl, hy, h2⟩ := dps_cons h2
  rw [dps_nil h2, dp_int hx, dp_int hy] at h1
  exact ⟨a, rfl, h1⟩
theorem dp_t3 {K : PySem.W.Frag} {H : Hp} {v : V} {p : Int × Int × Int} (h : Dp K H v (t3D p)) : ∃ a, v = .ref a ∧ SqT K H a [.int p.1, .int p.2.1, .int p.2.2] := by
  obtain ⟨a, xs, rfl, h1, h2⟩ := dp_tup h
  obtain ⟨x, r, rfl, hx, h2⟩ := dps_cons h2
  obtain ⟨y, r, rfl, hy, h2⟩ := dps_cons h2
  obtain ⟨z, r, rfl, hz, h2⟩ := dps_cons h2
  rw [dps_nil h2, dp_int hx, dp_int hy, dp_int hz] at h1
  exact ⟨a, rfl, h1⟩
theorem dp_t4 {K : PySem.W.Frag} {H : Hp} {v : V} {p : Int × Int × Int × Int} (h : Dp K H v (t4D p)) : ∃ a, v = .ref a ∧ SqT K H a [.int p.1, .int p.2.1, .int p.2.2.1, .int p.2.2.2] := by
  obtain ⟨a, xs, rfl, h1, h2⟩ := dp_tup h
  obtain ⟨x, r, rfl, hx, h2⟩ := dps_cons h2
  obtain ⟨y, r, rfl, hy, h2⟩ := dps_cons h2
  obtain ⟨z, r, rfl, hz, h2⟩ := dps_cons h2
  obtain ⟨u, r, rfl, hu, h2⟩ := dps_cons h2
  rw [dps_nil h2, dp_int hx, dp_int hy, dp_int hz, dp_int hu] at h1
  exact ⟨a, rfl, h1⟩
theorem dp_pt {K : PySem.W.Frag} {H : Hp} {v : V} {p : Int × Int × Bool} (h : Dp K H v (ptD p)) : ∃ a, v = .ref a ∧ SqT K H a [.int p.1, .int p.2.1, .bl p.2.2] := by
  obtain ⟨a, xs, rfl, h1, h2⟩ := dp_tup h
  obtain ⟨x, r, rfl, hx, h2⟩ := dps_cons h2
  obtain ⟨y, r, rfl, hy, h2⟩ := dps_cons h2
  obtain ⟨z, r, rfl, hz, h2⟩ := dps_cons h2
  rw [dps_nil h2, dp_int hx, dp_int hy, dp_bl hz] at h1
  exact ⟨a, rfl, h1⟩
theorem pair_dp {K : PySem.W.Frag} {H : Hp} {a : Addr} {p : Int × Int} (h : SqT K H a [.int p.1, .int p.2]) : Dp K H (.ref a) (pD p) := .tup h (.cons (.int _) (.cons (.int _) .nil))
theorem t3_dp {K : PySem.W.Frag} {H : Hp} {a : Addr} {p : Int × Int × Int} (h : SqT K H a [.int p.1, .int p.2.1, .int p.2.2]) : Dp K H (.ref a) (t3D p) := .tup h (.cons (.int _) (.cons (.int _) (.cons (.int _) .nil)))
theorem t4_dp {K : PySem.W.Frag} {H : Hp} {a : Addr} {p : Int × Int × Int × Int} (h : SqT K H a [.int p.1, .int p.2.1, .int p.2.2.1, .int p.2.2.2]) : Dp K H (.ref a) (t4D p) := .tup h (.cons (.int _) (.cons (.int _) (.cons (.int _) (.cons (.int _) .nil))))
theorem pt_dp {K : PySem.W.Frag} {H : Hp} {a : Addr} {p : Int × Int × Bool} (h : SqT K H a [.int p.1, .int p.2.1, .bl p.2.2]) : Dp K H (.ref a) (ptD p) := .tup h (.cons (.int _) (.cons (.int _) (.cons (.bl _) .nil)))
end Fl
/-! The mathematics, with no program in sight: fractions. -/
set_option linter.all false
namespace Fl
abbrev Rt := Int × Int
def gq (p q : Int) : Int := ((Nat.gcd p.natAbs q.natAbs : Nat) : Int)
def rat (p q : Int) : Rt := (p / gq p q, q / gq p q)
def radd (a b : Rt) : Rt := rat (a.1 * b.2 + b.1 * a.2) (a.2 * b.2)
def rsub (a b : Rt) : Rt := rat (a.1 * b.2 - b.1 * a.2) (a.2 * b.2)
def rmul (a b : Rt) : Rt := rat (a.1 * b.1) (a.2 * b.2)
def rdiv (a b : Rt) : Rt := rat (a.1 * b.2) (a.2 * b.1)
def dsgn (d : Int) : Int := if d = 0 then 0 else d / (if d < 0 then -d else d)
def rcmp (a b : Rt) : Int := dsgn (a.1 * b.2 - b.1 * a.2)
def rnear (a : Rt) : Int := (2 * a.1 + a.2) / (2 * a.2)
theorem gq_pos {p q : Int} (h : 0 < q) : 0 < gq p q := by
  unfold gq
  have : 0 < Nat.gcd p.natAbs q.natAbs := Nat.gcd_pos_of_pos_right _ (by omega)
  omega
theorem gq_le {p q : Int} (h : 0 < q) : gq p q ≤ q := by
  unfold gq
  have : Nat.gcd p.natAbs q.natAbs ≤ q.natAbs := Nat.gcd_le_right _ (by omega)
  omega
theorem gq_dvd_l (p q : Int) : gq p q ∣ p := by
  unfold gq
  exact Int.ofNat_dvd_left.mpr (Nat.gcd_dvd_left _ _)
theorem gq_dvd_r (p q : Int) : gq p q ∣ q := by
  unfold gq
  exact Int.ofNat_dvd_left.mpr (Nat.gcd_dvd_right _ _)
theorem quo_abs {g p : Int} (h : g ∣ p) (hg : 0 < g) : (p / g).natAbs ≤ p.natAbs := by
  obtain ⟨m, rfl⟩ := h
  rw [Int.mul_ediv_cancel_left _ (by omega), Int.natAbs_mul]
  have : 1 ≤ g.natAbs := by omega
  calc m.natAbs = 1 * m.natAbs := (Nat.one_mul _).symm
    _ ≤ g.natAbs * m.natAbs := Nat.mul_le_mul_right _ this
theorem quo_pos {g q : Int} (h : g ∣ q) (hg : 0 < g) (hq : 0 < q) : 0 < q / g := by
  obtain ⟨m, rfl⟩ := h
  rw [Int.mul_ediv_cancel_left _ (by omega)]
  exact Int.pos_of_mul_pos_right hq (by omega)
/-- of less than k bits, the divisor above 0 -/
def Sz (k : Nat) (a : Rt) : Prop := 0 < a.2 ∧ a.1.natAbs < 2 ^ k ∧ a.2.natAbs < 2 ^ k
theorem Sz.mono {j k : Nat} {a : Rt} (h : Sz j a) (l : j ≤ k) : Sz k a := by
  have e : 2 ^ j ≤ 2 ^ k := Nat.pow_le_pow_right (by omega) l
  exact ⟨h.1, Nat.lt_of_lt_of_le h.2.1 e, Nat.lt_of_lt_of_le h.2.2 e⟩
theorem sz_rat {p q : Int} {k : Nat} (hq : 0 < q) (hp : p.natAbs < 2 ^ k) (h2 : q.natAbs < 2 ^ k) : Sz k (rat p q) :=
  ⟨quo_pos (gq_dvd_r p q) (gq_pos hq) hq, Nat.lt_of_le_of_lt (quo_abs (gq_dvd_l p q) (gq_pos hq)) hp, Nat.lt_of_le_of_lt (quo_abs (gq_dvd_r p q) (gq_pos hq)) h2⟩
theorem lt_mul {x y : Int} {j k : Nat} (a : x.natAbs < 2 ^ j) (b : y.natAbs < 2 ^ k) : (x * y).natAbs < 2 ^ (j + k) := by
  rw [Int.natAbs_mul, Nat.pow_add]
  exact Nat.mul_lt_mul'' a b
theorem lt_more {x : Int} {j k : Nat} (a : x.natAbs < 2 ^ j) (l : j ≤ k) : x.natAbs < 2 ^ k := Nat.lt_of_lt_of_le a (Nat.pow_le_pow_right (by omega) l)
theorem lt_add {x y : Int} {k : Nat} (a : x.natAbs < 2 ^ k) (b : y.natAbs < 2 ^ k) : (x + y).natAbs < 2 ^ (k + 1) := by
  have := Int.natAbs_add_le x y
  rw [Nat.pow_succ]
  omega
theorem lt_sub {x y : Int} {k : Nat} (a : x.natAbs < 2 ^ k) (b : y.natAbs < 2 ^ k) : (x - y).natAbs < 2 ^ (k + 1) := by
  have := Int.natAbs_sub_le x y
  rw [Nat.pow_succ]
  omega
theorem sz_mul {a b : Rt} {j k : Nat} (x : Sz j a) (y : Sz k b) : Sz (j + k) (rmul a b) := sz_rat (Int.mul_pos x.1 y.1) (lt_mul x.2.1 y.2.1) (lt_mul x.2.2 y.2.2)
theorem sz_add {a b : Rt} {j k : Nat} (x : Sz j a) (y : Sz k b) : Sz (j + k + 1) (radd a b) :=
  sz_rat (Int.mul_pos x.1 y.1) (lt_add (lt_mul x.2.1 y.2.2) (by rw [Nat.add_comm]; exact lt_mul y.2.1 x.2.2)) (lt_more (lt_mul x.2.2 y.2.2) (by omega))
theorem sz_sub {a b : Rt} {j k : Nat} (x : Sz j a) (y : Sz k b) : Sz (j + k + 1) (rsub a b) :=
  sz_rat (Int.mul_pos x.1 y.1) (lt_sub (lt_mul x.2.1 y.2.2) (by rw [Nat.add_comm]; exact lt_mul y.2.1 x.2.2)) (lt_more (lt_mul x.2.2 y.2.2) (by omega))
theorem sz_div {a b : Rt} {j k : Nat} (x : Sz j a) (y : Sz k b) (h : 0 < b.1) : Sz (j + k) (rdiv a b) := sz_rat (Int.mul_pos x.1 h) (lt_mul x.2.1 y.2.2) (lt_mul x.2.2 y.2.1)
theorem rat_one (p : Int) : rat p 1 = (p, 1) := by
  have e : gq p 1 = 1 := by
    unfold gq
    simp
  unfold rat
  rw [e]
  simp
theorem rat_zero {q : Int} (h : 0 < q) : rat 0 q = (0, 1) := by
  have e : gq 0 q = q := by
    unfold gq
    simp
    omega
  unfold rat
  rw [e]
  simp
  exact Int.ediv_self (by omega)
theorem rat_two {p q : Int} (h : 0 < q) : rat (2 * p) (2 * q) = rat p q := by
  have e : gq (2 * p) (2 * q) = 2 * gq p q := by
    unfold gq
    rw [Int.natAbs_mul, Int.natAbs_mul, Nat.gcd_mul_left]
    push_cast
    rfl
  have g := gq_pos (p := p) h
  unfold rat
  rw [e, Int.mul_ediv_mul_of_pos _ _ (by omega), Int.mul_ediv_mul_of_pos _ _ (by omega)]
theorem rmul_zero_l {t : Rt} (h : 0 < t.2) : rmul (0, 1) t = (0, 1) := by
  unfold rmul
  simp only [Int.zero_mul, Int.one_mul]
  exact rat_zero h
theorem rmul_zero_r {t : Rt} (h : 0 < t.2) : rmul t (0, 1) = (0, 1) := by
  unfold rmul
  simp only [Int.mul_zero, Int.mul_one]
  exact rat_zero h
theorem radd_zero : radd (0, 1) (0, 1) = (0, 1) := by
  unfold radd
  simp only [Int.zero_mul, Int.mul_one, Int.zero_add]
  exact rat_zero (by omega)
theorem rnear_zero : rnear (0, 1) = 0 := rfl
theorem dsgn_pos {d : Int} (h : 0 < dsgn d) : 0 < d := by
  unfold dsgn at h
  by_cases z : d = 0
  · rw [if_pos z] at h
    omega
  · rw [if_neg z] at h
    by_cases n : d < 0
    · rw [if_pos n, Int.ediv_neg, Int.ediv_self z] at h
      omega
    · omega
theorem dsgn_neg {d : Int} (h : dsgn d < 0) : d < 0 := by
  unfold dsgn at h
  by_cases z : d = 0
  · rw [if_pos z] at h
    omega
  · rw [if_neg z] at h
    by_cases n : d < 0
    · exact n
    · rw [if_neg n, Int.ediv_self z] at h
      omega
theorem dsgn_zero : dsgn 0 = 0 := rfl
theorem dsgn_of_pos {d : Int} (h : 0 < d) : dsgn d = 1 := by
  unfold dsgn
  rw [if_neg (by omega), if_neg (by omega)]
  exact Int.ediv_self (by omega)
theorem dsgn_of_neg {d : Int} (h : d < 0) : dsgn d = -1 := by
  unfold dsgn
  rw [if_neg (by omega), if_pos h, Int.ediv_neg, Int.ediv_self (by omega)]
end Fl
/-! The mathematics, with no program in sight: shares, factors, moves, instances. -/
set_option linter.all false
namespace Fl
abbrev Pt := Int × Int × Bool
abbrev Outl := List (List Pt)
structure Gd where
  adv : Int
  out : Outl
  dl : List (Int × Int × Int × Int)
structure Fd where
  gs : List Gd
  axes : List (Int × Int × Int)
  regs : List (List (Int × Int × Int))
abbrev Ax := Int × Int × Int
def shareM (a : Ax) (n : Int) : Rt := if a.2.1 < n then rat (n - a.2.1) (a.2.2 - a.2.1) else if n < a.2.1 then rat (n - a.2.1) (a.2.1 - a.1) else (0, 1)
def sharesM (as : List Ax) (pl : List Int) : List Rt := List.zipWith shareM as pl
def tentF (t : Ax) (p : Rt) : Rt :=
  if t.2.1 = 0 ∨ rmul p (64, 1) = (t.2.1, 1) then (1, 1) else
  if rcmp (rmul p (64, 1)) (t.1, 1) ≤ 0 ∨ 0 ≤ rcmp (rmul p (64, 1)) (t.2.2, 1) then (0, 1) else
  if rcmp (rmul p (64, 1)) (t.2.1, 1) < 0 then rdiv (rsub (rmul p (64, 1)) (t.1, 1)) (rsub (t.2.1, 1) (t.1, 1)) else rdiv (rsub (t.2.2, 1) (rmul p (64, 1))) (rsub (t.2.2, 1) (t.2.1, 1))
def factF (a : Rt) (tp : Ax × Rt) : Rt := rmul a (tentF tp.1 tp.2)
def factorM (r : List Ax) (ps : List Rt) : Rt := (r.zip ps).foldl factF (1, 1)
structure AxOk (a : Ax) : Prop where
  lo : -2000 ≤ a.1
  ab : a.1 ≤ a.2.1
  bc : a.2.1 ≤ a.2.2
  hi : a.2.2 ≤ 2000
structure TentOk (t : Ax) : Prop where
  lo : -64 ≤ t.1
  ab : t.1 ≤ t.2.1
  bc : t.2.1 ≤ t.2.2
  hi : t.2.2 ≤ 64
theorem lt16 {x : Int} (h : x.natAbs ≤ 4000) : x.natAbs < 2 ^ 16 := Nat.lt_of_le_of_lt h (by decide)
theorem lt7 {x : Int} (h : x.natAbs ≤ 64) : x.natAbs < 2 ^ 7 := Nat.lt_of_le_of_lt h (by decide)
theorem lt15 {x : Int} (h : x.natAbs ≤ 16384) : x.natAbs < 2 ^ 15 := Nat.lt_of_le_of_lt h (by decide)
theorem sz_int {x : Int} {k : Nat} (h : x.natAbs < 2 ^ k) (hk : 1 ≤ k) : Sz k (x, 1) := ⟨(by decide : (0 : Int) < 1), h, Nat.lt_of_lt_of_le (by decide : (1 : Int).natAbs < 2 ^ 1) (Nat.pow_le_pow_right (by omega) hk)⟩
theorem sz_share {a : Ax} {n : Int} (h : AxOk a) (h1 : a.1 ≤ n) (h2 : n ≤ a.2.2) : Sz 16 (shareM a n) := by
  obtain ⟨b1, b2, b3, b4⟩ := h
  unfold shareM
  by_cases c : a.2.1 < n
  · rw [if_pos c]
    exact sz_rat (by omega) (lt16 (by omega)) (lt16 (by omega))
  · rw [if_neg c]
    by_cases d : n < a.2.1
    · rw [if_pos d]
      exact sz_rat (by omega) (lt16 (by omega)) (lt16 (by omega))
    · rw [if_neg d]
      exact sz_int (by decide) (by decide)
theorem at_pos {p : Rt} (h : Sz 16 p) : Sz 23 (rmul p (64, 1)) := sz_mul h (sz_int (k := 7) (by decide) (by decide))
theorem rcmp_int {a : Rt} {x : Int} : rcmp a (x, 1) = dsgn (a.1 - x * a.2) := by
  unfold rcmp
  rw [Int.mul_one]
theorem rsub_int {x y : Int} : rsub (x, 1) (y, 1) = (x - y, 1) := by
  unfold rsub
  simp only [Int.mul_one]
  exact rat_one _
theorem dsgn_le {d : Int} (h : ¬ dsgn d ≤ 0) : 0 < d := dsgn_pos (by omega)
/-- left of the peak, right of the start -/
theorem tent_left {a : Rt} {s p : Int} (ha : 0 < a.2) (h1 : ¬ rcmp a (s, 1) ≤ 0) (h2 : rcmp a (p, 1) < 0) : 0 < (rsub (p, 1) (s, 1)).1 := by
  rw [rsub_int]
  rw [rcmp_int] at h1 h2
  have a1 := dsgn_le h1
  have a2 := dsgn_neg h2
  have : s * a.2 < p * a.2 := by omega
  have := Int.lt_of_mul_lt_mul_right this (Int.le_of_lt ha)
  show 0 < p - s
  omega
theorem dsgn_nn {d : Int} (h : ¬ dsgn d < 0) : 0 ≤ d := by
  by_cases n : d < 0
  · rw [dsgn_of_neg n] at h
    omega
  · omega
theorem dsgn_lt {d : Int} (h : ¬ 0 ≤ dsgn d) : d < 0 := dsgn_neg (by omega)
theorem tent_right {a : Rt} {p e : Int} (ha : 0 < a.2) (h1 : ¬ 0 ≤ rcmp a (e, 1)) (h2 : ¬ rcmp a (p, 1) < 0) : 0 < (rsub (e, 1) (p, 1)).1 := by
  rw [rsub_int]
  rw [rcmp_int] at h1 h2
  have a1 := dsgn_lt h1
  have a2 := dsgn_nn h2
  have : p * a.2 < e * a.2 := by omega
  have := Int.lt_of_mul_lt_mul_right this (Int.le_of_lt ha)
  show 0 < e - p
  omega
theorem sz_tent {t : Ax} {p : Rt} (h : TentOk t) (hp : Sz 16 p) : Sz 60 (tentF t p) := by
  obtain ⟨b1, b2, b3, b4⟩ := h
  have ha := at_pos hp
  have hs : Sz 7 (t.1, 1) := sz_int (lt7 (by omega)) (by decide)
  have hk : Sz 7 (t.2.1, 1) := sz_int (lt7 (by omega)) (by decide)
  have he : Sz 7 (t.2.2, 1) := sz_int (lt7 (by omega)) (by decide)
  unfold tentF
  by_cases c : t.2.1 = 0 ∨ rmul p (64, 1) = (t.2.1, 1)
  · rw [if_pos c]
    exact sz_int (by decide) (by decide)
  rw [if_neg c]
  by_cases d : rcmp (rmul p (64, 1)) (t.1, 1) ≤ 0 ∨ 0 ≤ rcmp (rmul p (64, 1)) (t.2.2, 1)
  · rw [if_pos d]
    exact sz_int (by decide) (by decide)
  rw [if_neg d]
  have d1 := fun z => d (.inl z)
  have d2 := fun z => d (.inr z)
  by_cases e : rcmp (rmul p (64, 1)) (t.2.1, 1) < 0
  · rw [if_pos e]
    exact (sz_div (sz_sub ha hs) (sz_sub hk hs) (tent_left ha.1 d1 e)).mono (by decide)
  · rw [if_neg e]
    exact (sz_div (sz_sub he ha) (sz_sub he hk) (tent_right ha.1 d2 e)).mono (by decide)
theorem sz_fold : ∀ (l : List (Ax × Rt)) (a : Rt) (k : Nat), Sz k a → (∀ tp ∈ l, TentOk tp.1 ∧ Sz 16 tp.2) → Sz (k + 60 * l.length) (l.foldl factF a)
  | [], a, k, h, _ => h
  | tp :: l, a, k, h, g => by
    have h1 : Sz (k + 60) (factF a tp) := sz_mul h (sz_tent (g tp (List.mem_cons_self ..)).1 (g tp (List.mem_cons_self ..)).2)
    have := sz_fold l _ _ h1 fun x hx => g x (List.mem_cons_of_mem _ hx)
    exact this.mono (by rw [List.length_cons]; omega)
structure RegOk (n : Nat) (r : List Ax) : Prop where
  len : r.length = n
  all : ∀ t ∈ r, TentOk t
theorem sz_factor {n : Nat} {r : List Ax} {ps : List Rt} (h : RegOk n r) (hn : n ≤ 3) (hp : ∀ p ∈ ps, Sz 16 p) : Sz 200 (factorM r ps) := by
  refine (sz_fold (r.zip ps) (1, 1) 1 (sz_int (by decide) (by decide)) fun tp m => ?_).mono ?_
  · have := List.of_mem_zip m
    exact ⟨h.all _ this.1, hp _ this.2⟩
  · have : (r.zip ps).length ≤ r.length := by rw [List.length_zip]; omega
    have := h.len
    omega
/-! moves -/
abbrev Mv := Rt × Rt
def mv0 : Mv := ((0, 1), (0, 1))
abbrev Dl := Int × Int × Int × Int
def stepS (w : Int → Rt) (f : Int → Option Mv) (d : Dl) : Int → Option Mv :=
  fun j => if j = d.2.1 then some (radd ((f d.2.1).getD mv0).1 (rmul (w d.1) (d.2.2.1, 1)), radd ((f d.2.1).getD mv0).2 (rmul (w d.1) (d.2.2.2, 1))) else f j
def sumsM (w : Int → Rt) (dl : List Dl) : Int → Option Mv := dl.foldl (stepS w) fun _ => none
def weightM (regs : List (List Ax)) (ps : List Rt) (r : Int) : Rt := factorM (regs.getD r.toNat []) ps
def SzM (k : Nat) (f : Int → Option Mv) : Prop := ∀ p m, f p = some m → Sz k m.1 ∧ Sz k m.2
theorem SzM.mono {j k : Nat} {f : Int → Option Mv} (h : SzM j f) (l : j ≤ k) : SzM k f := fun p m e => ⟨(h p m e).1.mono l, (h p m e).2.mono l⟩
theorem SzM.get {k : Nat} {f : Int → Option Mv} (h : SzM k f) (l : 1 ≤ k) (p : Int) : Sz k ((f p).getD mv0).1 ∧ Sz k ((f p).getD mv0).2 := by
  cases e : f p with
  | none => exact ⟨(sz_int (x := 0) (k := 1) (by decide) (by decide)).mono l, (sz_int (x := 0) (k := 1) (by decide) (by decide)).mono l⟩
  | some m => exact h p m e
theorem sz_step {w : Int → Rt} {f : Int → Option Mv} {d : Dl} {k : Nat} (h : SzM k f) (l : 1 ≤ k) (hw : Sz 200 (w d.1)) (h1 : d.2.2.1.natAbs ≤ 16384) (h2 : d.2.2.2.natAbs ≤ 16384) : SzM (k + 216) (stepS w f d) := by
  intro p m e
  unfold stepS at e
  by_cases c : p = d.2.1
  · rw [if_pos c] at e
    cases e
    have g := h.get l d.2.1
    exact ⟨sz_add g.1 (sz_mul hw (sz_int (k := 15) (lt15 h1) (by decide))), sz_add g.2 (sz_mul hw (sz_int (k := 15) (lt15 h2) (by decide)))⟩
  · rw [if_neg c] at e
    exact ⟨(h p m e).1.mono (by omega), (h p m e).2.mono (by omega)⟩
def byM (f : Int → Option Mv) (p : Int) : Int × Int := (rnear ((f p).getD mv0).1, rnear ((f p).getD mv0).2)
abbrev near (x : Int) : Prop := -16384 ≤ x ∧ x ≤ 16384
abbrev badPt (f : Int → Option Mv) (i : Int) (p : Pt) : Prop := (f i).isSome = true ∧ ¬ (near (p.1 + (byM f i).1) ∧ near (p.2.1 + (byM f i).2))
def movedPt (f : Int → Option Mv) (i : Int) (p : Pt) : Pt := (p.1 + (byM f i).1, p.2.1 + (byM f i).2, p.2.2)
def mvC (f : Int → Option Mv) : Int → List Pt → Option (List Pt)
  | _, [] => some []
  | i, p :: r => if badPt f i p then none else (mvC f (i + 1) r).map (movedPt f i p :: ·)
def mvO (f : Int → Option Mv) : Int → Outl → Option Outl
  | _, [] => some []
  | i, c :: r => match mvC f i c with
    | none => none
    | some c' => (mvO f (i + c.length) r).map (c' :: ·)
def points (o : Outl) : Int := (o.map fun c => (c.length : Int)).sum
structure GOk (n : Nat) (g : Gd) : Prop where
  a0 : 0 ≤ g.adv
  a1 : g.adv ≤ 16384
  cs : g.out.length ≤ 3
  c2 : ∀ c ∈ g.out, 2 ≤ c.length ∧ c.length ≤ 8
  pt : ∀ c ∈ g.out, ∀ p ∈ c, near p.1 ∧ near p.2.1
  ds : g.dl.length ≤ 5
  dl : ∀ d ∈ g.dl, 0 ≤ d.1 ∧ d.1 < n ∧ -1 ≤ d.2.1 ∧ d.2.1 < points g.out ∧ near d.2.2.1 ∧ near d.2.2.2
structure FOk (f : Fd) : Prop where
  g1 : 1 ≤ f.gs.length
  g2 : f.gs.length ≤ 3
  gs : ∀ g ∈ f.gs, GOk f.regs.length g
  a3 : f.axes.length ≤ 3
  ax : ∀ a ∈ f.axes, AxOk a
  r4 : f.regs.length ≤ 4
  rg : ∀ r ∈ f.regs, RegOk f.axes.length r
  sp : ∀ r ∈ f.regs, ∀ t ∈ r, t.1 < 0 → 0 < t.2.2 → t.2.1 = 0
def movesM (f : Fd) (g : Gd) (ps : List Rt) : Int → Option Mv := sumsM (weightM f.regs ps) g.dl
theorem sz_weight {f : Fd} {g : Gd} {ps : List Rt} (F : FOk f) (hg : GOk f.regs.length g) (hp : ∀ p ∈ ps, Sz 16 p) {d : Dl} (hd : d ∈ g.dl) : Sz 200 (weightM f.regs ps d.1) := by
  obtain ⟨h1, h2, _⟩ := hg.dl d hd
  unfold weightM
  have lt : d.1.toNat < f.regs.length := by omega
  have e : f.regs.getD d.1.toNat [] = f.regs[d.1.toNat] := by simp [List.getD, lt]
  rw [e]
  exact sz_factor (F.rg _ (List.getElem_mem lt)) F.a3 hp
theorem sz_sums {w : Int → Rt} : ∀ (dl : List Dl) (f : Int → Option Mv) (k : Nat), SzM k f → 1 ≤ k → (∀ d ∈ dl, Sz 200 (w d.1) ∧ near d.2.2.1 ∧ near d.2.2.2) → SzM (k + 216 * dl.length) (dl.foldl (stepS w) f)
  | [], f, k, h, _, _ => h
  | d :: dl, f, k, h, l, g => by
    obtain ⟨g1, g2, g3⟩ := g d (List.mem_cons_self ..)
    have h1 := sz_step (d := d) h l g1 (by omega) (by omega)
    have := sz_sums dl _ _ h1 (by omega) fun x hx => g x (List.mem_cons_of_mem _ hx)
    exact this.mono (by rw [List.length_cons]; omega)
theorem szM_none (k : Nat) : SzM k fun _ => none := fun _ _ e => by cases e
theorem sz_moves {f : Fd} {g : Gd} {ps : List Rt} (F : FOk f) (hg : GOk f.regs.length g) (hp : ∀ p ∈ ps, Sz 16 p) : SzM 2000 (movesM f g ps) :=
  (sz_sums g.dl _ 1 (szM_none 1) (by decide) fun d hd => ⟨sz_weight F hg hp hd, (hg.dl d hd).2.2.2.2.1, (hg.dl d hd).2.2.2.2.2⟩).mono (by have := hg.ds; omega)
/-! instances -/
def variedM (f : Fd) (ps : List Rt) (g : Gd) : Option Gd :=
  match mvO (movesM f g ps) 0 g.out with
  | none => none
  | some o => if (movesM f g ps (-1)).isSome = true ∧ ¬ (0 ≤ g.adv + (byM (movesM f g ps) (-1)).1 ∧ g.adv + (byM (movesM f g ps) (-1)).1 ≤ 16384) then none else some ⟨g.adv + (byM (movesM f g ps) (-1)).1, o, []⟩
def allS {α : Type} : List (Option α) → Option (List α)
  | [] => some []
  | none :: _ => none
  | some x :: r => (allS r).map (x :: ·)
def instM (f : Fd) (ps : List Rt) : Option (List Gd) := allS (f.gs.map (variedM f ps))
theorem allS_some {α : Type} : ∀ {l : List (Option α)} {r : List α}, allS l = some r → l = r.map some
  | [], _, e => by cases e; rfl
  | none :: _, _, e => by cases e
  | some x :: l, r, e => by
    unfold allS at e
    cases q : allS l with
    | none => rw [q] at e; cases e
    | some r' =>
      rw [q] at e
      cases e
      rw [allS_some q]
      rfl
theorem allS_of {α : Type} : ∀ r : List α, allS (r.map some) = some r
  | [] => rfl
  | x :: r => by
    show (allS (r.map some)).map (x :: ·) = _
    rw [allS_of r]
    rfl
theorem allS_none {α : Type} : ∀ {l : List (Option α)} {i : Nat}, l[i]? = some none → allS l = none
  | [], _, e => by simp at e
  | none :: _, _, _ => rfl
  | some x :: l, 0, e => by simp at e
  | some x :: l, i + 1, e => by
    unfold allS
    rw [allS_none (l := l) (i := i) (by simpa using e)]
    rfl
/-! moved outlines keep their shape -/
theorem byM_none {f : Int → Option Mv} {i : Int} (h : ¬ (f i).isSome = true) : byM f i = (0, 0) := by
  unfold byM
  cases e : f i with
  | none => rfl
  | some m => rw [e] at h; exact absurd rfl h
theorem near_moved {f : Int → Option Mv} {i : Int} {p : Pt} (h : ¬ badPt f i p) (hp : near p.1 ∧ near p.2.1) : near (movedPt f i p).1 ∧ near (movedPt f i p).2.1 := by
  by_cases s : (f i).isSome = true
  · exact Classical.byContradiction fun z => h ⟨s, z⟩
  · unfold movedPt
    rw [byM_none s]
    simpa using hp
theorem mvC_ok {f : Int → Option Mv} : ∀ {c : List Pt} {i : Int} {c' : List Pt}, mvC f i c = some c' → (∀ p ∈ c, near p.1 ∧ near p.2.1) → c'.length = c.length ∧ ∀ p ∈ c', near p.1 ∧ near p.2.1
  | [], _, _, e, _ => by
    cases e
    exact ⟨rfl, fun p h => by cases h⟩
  | p :: c, i, c', e, hp => by
    unfold mvC at e
    by_cases b : badPt f i p
    · rw [if_pos b] at e
      cases e
    · rw [if_neg b] at e
      cases q : mvC f (i + 1) c with
      | none => rw [q] at e; cases e
      | some r =>
        rw [q] at e
        cases e
        obtain ⟨h1, h2⟩ := mvC_ok q fun x hx => hp x (List.mem_cons_of_mem _ hx)
        refine ⟨by rw [List.length_cons, List.length_cons, h1], fun x hx => ?_⟩
        rcases List.mem_cons.mp hx with rfl | hx
        · exact near_moved b (hp p (List.mem_cons_self ..))
        · exact h2 x hx
theorem mvO_ok {f : Int → Option Mv} : ∀ {o : Outl} {i : Int} {o' : Outl}, mvO f i o = some o' → (∀ c ∈ o, ∀ p ∈ c, near p.1 ∧ near p.2.1) → (∀ c ∈ o, 2 ≤ c.length ∧ c.length ≤ 8) →
    o'.length = o.length ∧ (∀ c ∈ o', 2 ≤ c.length ∧ c.length ≤ 8) ∧ ∀ c ∈ o', ∀ p ∈ c, near p.1 ∧ near p.2.1
  | [], _, _, e, _, _ => by
    cases e
    exact ⟨rfl, fun c h => (by cases h), fun c h => (by cases h)⟩
  | c :: o, i, o', e, hp, hl => by
    unfold mvO at e
    cases q : mvC f i c with
    | none => rw [q] at e; cases e
    | some c' =>
      rw [q] at e
      simp only at e
      cases q2 : mvO f (i + c.length) o with
      | none => rw [q2] at e; cases e
      | some r =>
        rw [q2] at e
        cases e
        obtain ⟨h1, h2⟩ := mvC_ok q (hp c (List.mem_cons_self ..))
        obtain ⟨k1, k2, k3⟩ := mvO_ok q2 (fun x hx => hp x (List.mem_cons_of_mem _ hx)) fun x hx => hl x (List.mem_cons_of_mem _ hx)
        have hc := hl c (List.mem_cons_self ..)
        refine ⟨by rw [List.length_cons, List.length_cons, k1], fun x hx => ?_, fun x hx => ?_⟩
        · rcases List.mem_cons.mp hx with rfl | hx
          · omega
          · exact k2 x hx
        · rcases List.mem_cons.mp hx with rfl | hx
          · exact h2
          · exact k3 x hx
theorem varied_ok {f : Fd} {ps : List Rt} {g g' : Gd} {n m : Nat} (hg : GOk n g) (e : variedM f ps g = some g') : GOk m g' ∧ g'.dl = [] := by
  unfold variedM at e
  cases q : mvO (movesM f g ps) 0 g.out with
  | none => rw [q] at e; cases e
  | some o =>
    rw [q] at e
    simp only at e
    obtain ⟨k1, k2, k3⟩ := mvO_ok q hg.pt hg.c2
    by_cases b : (movesM f g ps (-1)).isSome = true ∧ ¬ (0 ≤ g.adv + (byM (movesM f g ps) (-1)).1 ∧ g.adv + (byM (movesM f g ps) (-1)).1 ≤ 16384)
    · rw [if_pos b] at e
      cases e
    · rw [if_neg b] at e
      cases e
      have r : 0 ≤ g.adv + (byM (movesM f g ps) (-1)).1 ∧ g.adv + (byM (movesM f g ps) (-1)).1 ≤ 16384 := by
        by_cases s : (movesM f g ps (-1)).isSome = true
        · exact Classical.byContradiction fun z => b ⟨s, z⟩
        · rw [byM_none s]
          have := hg.a0
          have := hg.a1
          simp only
          omega
      exact ⟨⟨r.1, r.2, by show o.length ≤ 3; rw [k1]; exact hg.cs, k2, k3, Nat.zero_le _, fun d hd => by cases hd⟩, rfl⟩
theorem inst_ok {f : Fd} {ps : List Rt} {gs : List Gd} (F : FOk f) (e : instM f ps = some gs) : FOk ⟨gs, [], []⟩ ∧ ∀ g ∈ gs, g.dl = [] := by
  have e2 := allS_some e
  have el : gs.length = f.gs.length := by
    have := congrArg List.length e2
    simpa using this.symm
  have hg : ∀ g' ∈ gs, GOk 0 g' ∧ g'.dl = [] := fun g' m => by
    have : some g' ∈ gs.map some := List.mem_map_of_mem m
    rw [← e2] at this
    obtain ⟨g, mg, eg⟩ := List.mem_map.mp this
    exact varied_ok (F.gs g mg) eg
  exact ⟨⟨by show 1 ≤ gs.length; rw [el]; exact F.g1, by show gs.length ≤ 3; rw [el]; exact F.g2, fun g m => (hg g m).1, Nat.zero_le _, fun a h => (by cases h), Nat.zero_le _, fun a h => (by cases h), fun a h => (by cases h)⟩, fun g m => (hg g m).2⟩
/-! where nothing moves -/
def NoMv (f : Int → Option Mv) : Prop := ∀ p m, f p = some m → m = mv0
theorem NoMv.by {f : Int → Option Mv} (h : NoMv f) (i : Int) : byM f i = (0, 0) := by
  unfold byM
  cases e : f i with
  | none => rfl
  | some m => rw [h i m e]; rfl
theorem movedPt_no {f : Int → Option Mv} (h : NoMv f) (i : Int) (p : Pt) : movedPt f i p = p := by
  unfold movedPt
  rw [h.by]
  simp
theorem badPt_no {f : Int → Option Mv} (h : NoMv f) {i : Int} {p : Pt} (hp : near p.1 ∧ near p.2.1) : ¬ badPt f i p := fun z => by
  apply z.2
  rw [h.by]
  simpa using hp
theorem mvC_no {f : Int → Option Mv} (h : NoMv f) : ∀ (c : List Pt) (i : Int), (∀ p ∈ c, near p.1 ∧ near p.2.1) → mvC f i c = some c
  | [], _, _ => rfl
  | p :: c, i, hp => by
    unfold mvC
    rw [if_neg (badPt_no h (hp p (List.mem_cons_self ..))), mvC_no h c (i + 1) fun x hx => hp x (List.mem_cons_of_mem _ hx), movedPt_no h]
    rfl
theorem mvO_no {f : Int → Option Mv} (h : NoMv f) : ∀ (o : Outl) (i : Int), (∀ c ∈ o, ∀ p ∈ c, near p.1 ∧ near p.2.1) → mvO f i o = some o
  | [], _, _ => rfl
  | c :: o, i, hp => by
    unfold mvO
    rw [mvC_no h c i (hp c (List.mem_cons_self ..))]
    simp only
    rw [mvO_no h o _ fun x hx => hp x (List.mem_cons_of_mem _ hx)]
    rfl
theorem varied_no {f : Fd} {ps : List Rt} {g : Gd} {n : Nat} (hg : GOk n g) (h : NoMv (movesM f g ps)) : variedM f ps g = some ⟨g.adv, g.out, []⟩ := by
  unfold variedM
  rw [mvO_no h g.out 0 hg.pt]
  simp only
  rw [h.by]
  have := hg.a0
  have := hg.a1
  rw [if_neg (fun z => z.2 (by simp only; omega))]
  simp
theorem sums_nil {f : Fd} {ps : List Rt} {g : Gd} (h : g.dl = []) : NoMv (movesM f g ps) := by
  unfold movesM
  rw [h]
  intro p m e
  cases e
theorem inst_same {gs : List Gd} (F : FOk ⟨gs, [], []⟩) (h : ∀ g ∈ gs, g.dl = []) : instM ⟨gs, [], []⟩ [] = some gs := by
  unfold instM
  have : gs.map (variedM ⟨gs, [], []⟩ []) = gs.map some := List.map_congr_left fun g m => by
    rw [varied_no (F.gs g m) (sums_nil (h g m))]
    have := h g m
    cases g
    simp_all
  show allS (gs.map (variedM ⟨gs, [], []⟩ [])) = some gs
  rw [this]
  exact allS_of gs
/-! the normal place -/
def Good (r : List Ax) : Prop := ∃ t ∈ r, 1 ≤ t.2.1 ∧ 0 ≤ t.1
theorem tent_good {t : Ax} (h1 : 1 ≤ t.2.1) (h2 : 0 ≤ t.1) : tentF t (0, 1) = (0, 1) := by
  have key : rcmp (0, 1) (t.1, 1) ≤ 0 := by
    rw [rcmp_int]
    simp only [Int.mul_one, Int.zero_sub]
    by_cases z : t.1 = 0
    · rw [z]
      exact Int.le_refl _
    · rw [dsgn_of_neg (by omega)]
      decide
  unfold tentF
  rw [rmul_zero_l (t := (64, 1)) (by decide), if_neg (fun z => by
    rcases z with z | z
    · omega
    · have : (0 : Int) = t.2.1 := congrArg Prod.fst z
      omega), if_pos (.inl key)]
theorem fold_zero : ∀ (l : List (Ax × Rt)), (∀ tp ∈ l, TentOk tp.1 ∧ tp.2 = (0, 1)) → l.foldl factF (0, 1) = (0, 1)
  | [], _ => rfl
  | tp :: l, g => by
    obtain ⟨g1, g2⟩ := g tp (List.mem_cons_self ..)
    show l.foldl factF (factF (0, 1) tp) = _
    have : factF (0, 1) tp = (0, 1) := rmul_zero_l (sz_tent g1 (by rw [g2]; exact sz_int (by decide) (by decide))).1
    rw [this]
    exact fold_zero l fun x hx => g x (List.mem_cons_of_mem _ hx)
theorem fold_good : ∀ (l : List (Ax × Rt)) (a : Rt), 0 < a.2 → (∀ tp ∈ l, TentOk tp.1 ∧ tp.2 = (0, 1)) → (∃ tp ∈ l, 1 ≤ tp.1.2.1 ∧ 0 ≤ tp.1.1) → l.foldl factF a = (0, 1)
  | [], _, _, _, ⟨_, m, _⟩ => by cases m
  | tp :: l, a, ha, g, ⟨x, m, h1, h2⟩ => by
    obtain ⟨g1, g2⟩ := g tp (List.mem_cons_self ..)
    have g3 : ∀ tp ∈ l, TentOk tp.1 ∧ tp.2 = (0, 1) := fun x hx => g x (List.mem_cons_of_mem _ hx)
    show l.foldl factF (factF a tp) = _
    have sz := sz_tent g1 (p := tp.2) (by rw [g2]; exact sz_int (by decide) (by decide))
    rcases List.mem_cons.mp m with rfl | m
    · have : factF a x = (0, 1) := by
        unfold factF
        rw [g2, tent_good h1 h2]
        exact rmul_zero_r ha
      rw [this]
      exact fold_zero l g3
    · refine fold_good l _ ?_ g3 ⟨x, m, h1, h2⟩
      have q := Int.mul_pos ha sz.1
      exact quo_pos (gq_dvd_r _ _) (gq_pos q) q
theorem factor_good {n : Nat} {r : List Ax} {ps : List Rt} (h : RegOk n r) (hp : ∀ p ∈ ps, p = (0, 1)) (hl : ps.length = n) (g : Good r) : factorM r ps = (0, 1) := by
  refine fold_good _ _ (by decide) (fun tp m => ?_) ?_
  · have := List.of_mem_zip m
    exact ⟨h.all _ this.1, hp _ this.2⟩
  · obtain ⟨t, m, h1, h2⟩ := g
    obtain ⟨i, lt, e⟩ := List.mem_iff_getElem.mp m
    have l2 : i < ps.length := by
      rw [hl, ← h.len]
      exact lt
    refine ⟨(t, ps[i]), ?_, h1, h2⟩
    refine List.mem_iff_getElem.mpr ⟨i, by rw [List.length_zip]; omega, ?_⟩
    rw [List.getElem_zip, e]
theorem step_no {w : Int → Rt} {f : Int → Option Mv} {d : Dl} (h : NoMv f) (hw : w d.1 = (0, 1)) : NoMv (stepS w f d) := by
  intro p m e
  unfold stepS at e
  by_cases c : p = d.2.1
  · rw [if_pos c] at e
    have z : (f d.2.1).getD mv0 = mv0 := by
      cases q : f d.2.1 with
      | none => rfl
      | some m => exact h _ _ q
    rw [z, hw, rmul_zero_l (t := (d.2.2.1, 1)) (by show (0 : Int) < 1; decide), rmul_zero_l (t := (d.2.2.2, 1)) (by show (0 : Int) < 1; decide)] at e
    cases e
    show ((radd (0, 1) (0, 1), radd (0, 1) (0, 1)) : Mv) = mv0
    rw [radd_zero]
    rfl
  · rw [if_neg c] at e
    exact h p m e
theorem sums_no {w : Int → Rt} : ∀ (dl : List Dl) (f : Int → Option Mv), NoMv f → (∀ d ∈ dl, w d.1 = (0, 1)) → NoMv (dl.foldl (stepS w) f)
  | [], f, h, _ => h
  | d :: dl, f, h, g => sums_no dl _ (step_no h (g d (List.mem_cons_self ..))) fun x hx => g x (List.mem_cons_of_mem _ hx)
theorem inst_normal {f : Fd} {ps : List Rt} (F : FOk f) (hp : ∀ p ∈ ps, p = (0, 1)) (hl : ps.length = f.axes.length) (g : ∀ r ∈ f.regs, Good r) : instM f ps = some (f.gs.map fun g => ⟨g.adv, g.out, []⟩) := by
  unfold instM
  have : f.gs.map (variedM f ps) = (f.gs.map fun g => (⟨g.adv, g.out, []⟩ : Gd)).map some := by
    rw [List.map_map]
    refine List.map_congr_left fun x m => ?_
    have hg := F.gs x m
    refine varied_no hg (sums_no x.dl _ (fun _ _ e => by cases e) fun d hd => ?_)
    obtain ⟨h1, h2, _⟩ := hg.dl d hd
    unfold weightM
    have lt : d.1.toNat < f.regs.length := by omega
    have e : f.regs.getD d.1.toNat [] = f.regs[d.1.toNat] := by simp [List.getD, lt]
    rw [e]
    exact factor_good (F.rg _ (List.getElem_mem lt)) hp hl (g _ (List.getElem_mem lt))
  rw [this]
  exact allS_of _
theorem shares_normal (as : List Ax) : ∀ p ∈ sharesM as (as.map fun a => a.2.1), p = (0, 1) := by
  intro p m
  unfold sharesM at m
  rw [List.zipWith_map_right] at m
  obtain ⟨i, lt, e⟩ := List.mem_iff_getElem.mp m
  rw [List.getElem_zipWith] at e
  rw [← e]
  unfold shareM
  rw [if_neg (by omega), if_neg (by omega)]
theorem sharesM_length {as : List Ax} {pl : List Int} (h : pl.length = as.length) : (sharesM as pl).length = as.length := by
  unfold sharesM
  rw [List.length_zipWith]
  omega
structure InAx (as : List Ax) (pl : List Int) : Prop where
  len : pl.length = as.length
  all : ∀ (i : Nat) (a : Ax) (n : Int), as[i]? = some a → pl[i]? = some n → a.1 ≤ n ∧ n ≤ a.2.2
theorem sz_shares {as : List Ax} {pl : List Int} (h : ∀ a ∈ as, AxOk a) (hi : InAx as pl) : ∀ p ∈ sharesM as pl, Sz 16 p := by
  intro p m
  obtain ⟨i, lt, e⟩ := List.mem_iff_getElem.mp m
  unfold sharesM at lt e
  rw [List.getElem_zipWith] at e
  rw [List.length_zipWith] at lt
  have l1 : i < as.length := by omega
  have l2 : i < pl.length := by omega
  obtain ⟨k1, k2⟩ := hi.all i as[i] pl[i] (List.getElem?_eq_getElem l1) (List.getElem?_eq_getElem l2)
  rw [← e]
  exact sz_share (h _ (List.getElem_mem l1)) k1 k2
/-! the wider axes -/
def wideA (a : Ax) : Ax := (a.2.1 + 2 * (a.1 - a.2.1), a.2.1, a.2.1 + 2 * (a.2.2 - a.2.1))
def farN (a : Ax) (n : Int) : Int := a.2.1 + 2 * (n - a.2.1)
theorem share_wide (a : Ax) (n : Int) (h1 : a.1 ≤ n) (h2 : n ≤ a.2.2) : shareM (wideA a) (farN a n) = shareM a n := by
  unfold shareM wideA farN
  simp only
  by_cases c : a.2.1 < n
  · rw [if_pos c, if_pos (by omega)]
    have e1 : a.2.1 + 2 * (n - a.2.1) - a.2.1 = 2 * (n - a.2.1) := by omega
    have e2 : a.2.1 + 2 * (a.2.2 - a.2.1) - a.2.1 = 2 * (a.2.2 - a.2.1) := by omega
    rw [e1, e2]
    exact rat_two (by omega)
  · rw [if_neg c, if_neg (by omega)]
    by_cases d : n < a.2.1
    · rw [if_pos d, if_pos (by omega)]
      have e1 : a.2.1 + 2 * (n - a.2.1) - a.2.1 = 2 * (n - a.2.1) := by omega
      have e2 : a.2.1 - (a.2.1 + 2 * (a.1 - a.2.1)) = 2 * (a.2.1 - a.1) := by omega
      rw [e1, e2]
      exact rat_two (by omega)
    · rw [if_neg d, if_neg (by omega)]
theorem inst_regs {f f' : Fd} (ps : List Rt) (h1 : f'.gs = f.gs) (h2 : f'.regs = f.regs) : instM f' ps = instM f ps := by
  unfold instM variedM movesM
  rw [h1, h2]
end Fl
set_option Elab.async false
set_option linter.all false
set_option maxRecDepth 100000
set_option maxHeartbeats 4000000
/-! More of the heap: parts of it, lists that grow, fonts and glyphs as data. -/
namespace Fl
open PySem PySem.Spec PyProof.Rows L2
section
variable {K : PySem.W.Frag} {G H H' H1 H2 : Hp} {v : V} {d : PyData} {D : Addr}
/-! data without lists -/
mutual
def flat : PyData → Bool
  | .list _ => false
  | .tuple ds => flats ds
  | _ => true
def flats : List PyData → Bool
  | [] => true
  | d :: ds => flat d && flats ds
end
theorem upd_tup {a D : Addr} {xs : List V} {ys : List V} {o : HO} (hD : H D = some (.lst ys)) (h : SqT K H a xs) : SqT K (upd H D o) a xs := by
  rcases h with (h | ⟨u, h⟩) | h
  · exact .inl (.inl (by rw [upd_ne (ne_of h hD (by intro z; cases z))]; exact h))
  · exact .inl (.inr ⟨u, by rw [upd_ne (ne_of h hD (by intro z; cases z))]; exact h⟩)
  · exact .inr h
mutual
theorem dp_flat {ys : List V} {o : HO} (hD : H D = some (.lst ys)) : ∀ (d : PyData) (v : V), flat d = true → Dp K H v d → Dp K (upd H D o) v d
  | .none, _, _, h => by cases h; exact .non
  | .bool b, _, _, h => by cases h; exact .bl b
  | .int i, _, _, h => by cases h; exact .int i
  | .str x, _, _, h => by cases h; exact .str x
  | .list ds, _, f, _ => by cases f
  | .tuple ds, _, f, h => by
    cases h with
    | tup hs ha => exact .tup (upd_tup hD hs) (dps_flat hD ds _ f ha)
  | .dict _, _, _, h => by cases h
theorem dps_flat {ys : List V} {o : HO} (hD : H D = some (.lst ys)) : ∀ (ds : List PyData) (vs : List V), flats ds = true → DpAll K H vs ds → DpAll K (upd H D o) vs ds
  | [], _, _, h => by cases h; exact .nil
  | d :: ds, _, f, h => by
    obtain ⟨f1, f2⟩ := Bool.and_eq_true_iff.mp (show (flat d && flats ds) = true from f)
    cases h with
    | cons h1 h2 => exact .cons (dp_flat hD d _ f1 h1) (dps_flat hD ds _ f2 h2)
end
theorem flats_map {α : Type} {f : α → PyData} (h : ∀ x, flat (f x) = true) : ∀ l : List α, flats (l.map f) = true
  | [] => rfl
  | x :: l => by
    show (flat (f x) && flats (l.map f)) = true
    rw [h x, flats_map h l]
    rfl
theorem flats_take {ds : List PyData} (h : flats ds = true) : ∀ n, flats (ds.take n) = true := by
  induction ds with
  | nil => intro n; rw [List.take_nil]; rfl
  | cons d ds ih =>
    obtain ⟨f1, f2⟩ := Bool.and_eq_true_iff.mp (show (flat d && flats ds) = true from h)
    intro n
    cases n with
    | zero => rfl
    | succ n =>
      show (flat d && flats (ds.take n)) = true
      rw [f1, ih f2 n]
      rfl
theorem dps_take : ∀ {vs : List V} {ds : List PyData} (n : Nat), DpAll K H vs ds → DpAll K H (vs.take n) (ds.take n)
  | _, _, 0, _ => .nil
  | _, _, _ + 1, .nil => .nil
  | _, _, n + 1, .cons r t => .cons r (dps_take n t)
/-! a part of the heap: what is in G, and what is new since H -/
def ext (G H H' : Hp) : Hp := fun b => match H b with
  | none => H' b
  | some _ => G b
theorem ext_new {b : Addr} (h : H b = none) : ext G H H' b = H' b := by
  unfold ext
  rw [h]
theorem ext_old {b : Addr} {o : HO} (h : H b = some o) : ext G H H' b = G b := by
  unfold ext
  rw [h]
theorem ext_sub (g : Same G H) (s : Same H H') : Same (ext G H H') H' := fun b o e => by
  cases q : H b with
  | none =>
    rw [ext_new q] at e
    exact e
  | some u =>
    rw [ext_old q] at e
    exact s b o (g b o e)
theorem sub_ext (g : Same G H) : Same G (ext G H H') := fun b o e => by
  rw [ext_old (g b o e)]
  exact e
theorem ext_mono (s : Same H1 H2) : Same (ext G H H1) (ext G H H2) := fun b o e => by
  cases q : H b with
  | none =>
    rw [ext_new q] at e ⊢
    exact s b o e
  | some u =>
    rw [ext_old q] at e ⊢
    exact e
theorem ext_trans (s1 : Same H H1) (s2 : Same H1 H2) : Same (ext (ext G H H1) H1 H2) (ext G H H2) := fun b o e => by
  cases q : H1 b with
  | none =>
    rw [ext_new q] at e
    rw [ext_new (Same.free s1 q)]
    exact e
  | some u =>
    rw [ext_old q] at e
    cases r : H b with
    | none =>
      rw [ext_new r] at e ⊢
      exact s2 b o e
    | some z =>
      rw [ext_old r] at e ⊢
      exact e
theorem ext_whole (s : Same H H') : Same (ext H H H') H' := ext_sub (Same.refl H) s
def era (D : Addr) (H : Hp) : Hp := fun b => if b = D then none else H b
theorem era_ne {b : Addr} (h : b ≠ D) : era D H b = H b := if_neg h
theorem era_sub : Same (era D H) H := fun b o e => by
  by_cases h : b = D
  · have z : era D H b = none := if_pos h
    rw [z] at e
    cases e
  · rw [era_ne h] at e
    exact e
theorem era_of {b : Addr} {o : HO} (h : b ≠ D) (e : H b = some o) : era D H b = some o := by
  rw [era_ne h]
  exact e
theorem era_same (s : Same H H') (n : H D = none) : Same H (era D H') := fun b o e => era_of (ne_of_none e n) (s b o e)
theorem era_mono (s : Same H H') : Same (era D H) (era D H') := fun b o e => by
  by_cases h : b = D
  · have z : era D H b = none := if_pos h
    rw [z] at e
    cases e
  · rw [era_ne h] at e
    exact era_of h (s b o e)
theorem era_upd {o : HO} : era D (upd H D o) = era D H := by
  funext b
  unfold era
  by_cases h : b = D
  · rw [if_pos h, if_pos h]
  · rw [if_neg h, if_neg h, upd_ne h]
theorem ext_era {o : HO} (s : Same H H') (h : H D = some o) : Same (ext (era D H) H H') (era D H') := fun b u e => by
  cases q : H b with
  | none =>
    rw [ext_new q] at e
    exact era_of (fun z => by rw [z, h] at q; cases q) e
  | some z =>
    rw [ext_old q] at e
    exact era_mono s b u e
/-! glyphs and fonts -/
def glyF (adv : Int) (vo vp va vd vh : V) : List (Str × V) := [("advance", .int adv), ("outline", vo), ("parts", vp), ("anchors", va), ("mark", .bl false), ("deltas", vd), ("hint", vh)]
def GlyphAt (K : PySem.W.Frag) (H : Hp) (v : V) (g : Gd) : Prop := ∃ (a dx : Addr) (vo vp va vd vh : V), v = .ref a ∧ H a = some (.ins (He.ga K "Glyph") dx (glyF g.adv vo vp va vd vh)) ∧
  Dp K H vo (outD g.out) ∧ Dp K H vp (.list []) ∧ Dp K H va (.list []) ∧ Dp K H vd (.list (g.dl.map t4D)) ∧ Dp K H vh (.list [])
theorem GlyphAt.same {g : Gd} (e : Same H H') (h : GlyphAt K H v g) : GlyphAt K H' v g := by
  obtain ⟨a, dx, vo, vp, va, vd, vh, rfl, h0, h1, h2, h3, h4, h5⟩ := h
  exact ⟨a, dx, vo, vp, va, vd, vh, rfl, e _ _ h0, e.dp h1, e.dp h2, e.dp h3, e.dp h4, e.dp h5⟩
def fntF (gl : Addr) (vc vl vf va vr vu vp : V) : List (Str × V) := [("unit", .int 100), ("glyphs", .ref gl), ("chars", vc), ("lookups", vl), ("features", vf), ("axes", va), ("regions", vr), ("functions", vu), ("presets", vp)]
def FontAt (K : PySem.W.Frag) (H : Hp) (v : V) (f : Fd) : Prop := ∃ (a dx gl : Addr) (gvs : List V) (vc vl vf va vr vu vp : V), v = .ref a ∧ H a = some (.ins (He.ga K "Font") dx (fntF gl vc vl vf va vr vu vp)) ∧
  SqL K H gl gvs ∧ Paired (GlyphAt K H) gvs f.gs ∧ Dp K H vc (.list []) ∧ Dp K H vl (.list []) ∧ Dp K H vf (.list []) ∧ Dp K H va (.list (f.axes.map t3D)) ∧ Dp K H vr (.list (f.regs.map regD)) ∧ Dp K H vu (.list []) ∧ Dp K H vp (.list [])
theorem pair_mono {α β : Type} {F F' : α → β → Prop} (h : ∀ a b, F a b → F' a b) : ∀ {l : List α} {m : List β}, Paired F l m → Paired F' l m
  | _, _, .nil => .nil
  | _, _, .cons r t => .cons (h _ _ r) (pair_mono h t)
theorem pair_snoc {α β : Type} {F : α → β → Prop} {a : α} {b : β} (h : F a b) : ∀ {l : List α} {m : List β}, Paired F l m → Paired F (l ++ [a]) (m ++ [b])
  | _, _, .nil => .cons h .nil
  | _, _, .cons r t => .cons r (pair_snoc h t)
theorem pair_at {α β : Type} {F : α → β → Prop} : ∀ {l : List α} {m : List β} {i : Nat} {b : β}, Paired F l m → m[i]? = some b → ∃ a, l[i]? = some a ∧ F a b
  | _, _, _, _, .nil, e => by simp at e
  | _, _, 0, _, .cons r _, e => by simp at e; subst e; exact ⟨_, rfl, r⟩
  | _, _, i + 1, b, .cons _ t, e => by
    obtain ⟨a, h1, h2⟩ := pair_at (i := i) (b := b) t (by simpa using e)
    exact ⟨a, by simpa using h1, h2⟩
theorem FontAt.same {f : Fd} (e : Same H H') (h : FontAt K H v f) : FontAt K H' v f := by
  obtain ⟨a, dx, gl, gvs, vc, vl, vf, va, vr, vu, vp, rfl, h0, h1, h2, h3, h4, h5, h6, h7, h8, h9⟩ := h
  exact ⟨a, dx, gl, gvs, vc, vl, vf, va, vr, vu, vp, rfl, e _ _ h0, e.seq h1, pair_mono (fun _ _ => GlyphAt.same e) h2, e.dp h3, e.dp h4, e.dp h5, e.dp h6, e.dp h7, e.dp h8, e.dp h9⟩
end
/-! more steps -/
section
variable {σ : L2.St} {H : Hp} {Q : VK} {D : Ends} {K : PySem.W.Frag}
theorem x_gtup {n : Nat} {t : TGs} {a : Addr} {xs : List V} {P : L2.St → Hp → Prop} (h : SqT K H a xs) (e : xs.length = n) (q : t xs σ H P) : gTup K n t (.ref a) σ H P := ⟨a, xs, rfl, h, e, q⟩
theorem x_gunl {n : Nat} {t : TGs} {a : Addr} {xs : List V} {P : L2.St → Hp → Prop} (h : SqL K H a xs) (e : xs.length = n) (q : t xs σ H P) : gUnl K n t (.ref a) σ H P := ⟨a, xs, rfl, h, e, q⟩
theorem x_gcons {t : TG} {u : TGs} {v : V} {r : List V} {P : L2.St → Hp → Prop} (h : t v σ H fun σ' H' => u r σ' H' P) : gCons t u (v :: r) σ H P := ⟨v, r, rfl, h⟩
theorem x_gnil {P : L2.St → Hp → Prop} (h : P σ H) : gNil [] σ H P := ⟨rfl, h⟩
theorem x_gsub {to ti : TE} {t : TSet} {v : V} {P : L2.St → Hp → Prop} (h : to σ H fun o H1 => ti σ H1 fun i H2 => t o i v H2 fun H3 => P σ H3) : gSub to ti t v σ H P := h
theorem x_for {wi : TI} {g : TG} {tb : TS} (h : wi σ H fun J H1 => ∃ W : Nat → Nat → L2.St → Hp → Prop, (∃ m, W 0 m σ H1) ∧ ∀ i m σ H, W i m σ H →
    (J.stop i H ∧ D.nx σ H) ∨ (J.go i H ∧ ∃ N : L2.St → Hp → Prop, (∀ σ' H', N σ' H' → ∃ m', m' < m ∧ W (i + 1) m' σ' H') ∧ ∀ x H', J.yld i H x H' → g x σ H' fun σ2 H2 => tb { D with nx := N, ct := N, bk := D.nx } σ2 H2)) : tFor wi g tb D σ H := h
theorem x_lc {wi : TI} {g : TG} {tt : TT} {te : TE} {vs : List Nat} (h : wi σ H fun J H1 => ∀ D, H1 D = none → ∃ W : Nat → Nat → Hp → Prop, (∃ m, W 0 m (upd H1 D (.lst []))) ∧ ∀ i m H, W i m H →
    (J.stop i H ∧ Q (.ref D) H) ∨ (J.go i H ∧ ∃ Nx : Hp → Prop, (∀ H', Nx H' → ∃ m', m' < m ∧ W (i + 1) m' H') ∧ ∀ x H', J.yld i H x H' → g x (wipe σ vs) H' fun σ2 H2 => wipe σ2 vs = wipe σ vs ∧ tt σ2 H2 fun b H3 =>
      if b = true then te σ2 H3 fun y H4 => ∃ acc, H4 D = some (.lst acc) ∧ acc.length < sizeLine ∧ Nx (upd H4 D (.lst (acc ++ [y]))) else Nx H3)) : tLc wi g tt te vs σ H Q := h
theorem x_yes {Q : Bool → Hp → Prop} (h : Q true H) : tYes σ H Q := h
theorem x_iList {tl : TE} {R : It → Hp → Prop} (h : tl σ H fun x H1 => ∃ a, x = .ref a ∧ (∃ xs, SqL K H1 a xs) ∧ R (Itl K a) H1) : iList K tl σ H R := h
theorem x_iTup {tl : TE} {R : It → Hp → Prop} (h : tl σ H fun x H1 => ∃ a, x = .ref a ∧ (∃ xs, SqT K H1 a xs) ∧ R (Itt K a) H1) : iTup K tl σ H R := h
theorem x_iSeq {tl : TE} {R : It → Hp → Prop} (h : tl σ H fun x H1 => ∃ a, x = .ref a ∧ ((∃ xs, SqL K H1 a xs ∧ R (Itl K a) H1) ∨ (∃ xs, SqT K H1 a xs ∧ R (Itt K a) H1))) : iSeq K tl σ H R := h
theorem x_iZip {ta : TA} {R : It → Hp → Prop} (h : ta σ H fun vs H1 => ∃ a b xs ys, vs = [.ref a, .ref b] ∧ SqL K H1 a xs ∧ SqL K H1 b ys ∧ R (Itz K a b) H1) : iZip K ta σ H R := h
theorem x_iEnum {ta : TA} {R : It → Hp → Prop} (h : ta σ H fun vs H1 => ∃ a xs, vs = [.ref a] ∧ SqL K H1 a xs ∧ R (Ite K a) H1) : iEnum K ta σ H R := h
theorem x_iRng1 {ta : TA} {R : It → Hp → Prop} (h : ta σ H fun vs H1 => ∃ j : Int, vs = [.int j] ∧ -(2 ^ 62) ≤ j ∧ j < 2 ^ 62 ∧ R (Itr 0 j.toNat) H1) : iRng1 ta σ H R := h
theorem x_aug {i : Nat} {te : TE} {ti : TIp} (h : ∃ x, σ[i]? = some (some x) ∧ te σ H fun y H1 => ti x y H1 fun z H2 => D.nx (σ.set i (some z)) H2) : tAug i te ti D σ H := h
theorem x_ipI {f : Int → Int → Int} {i j : Int} (h : Q (.int (f i j)) H) : ipI f (.int i) (.int j) H Q := ⟨i, j, rfl, rfl, h⟩
theorem x_meth {C : Addr} {m : Str} {sp : Sp} {dvs : List V} {E : XK} {ta : TE} {t : TA} (h : ta σ H fun x H1 => ∃ a dx fs, x = .ref a ∧ H1 a = some (.ins C dx fs) ∧ fs.lookup m = none ∧ t σ H1 fun vs H2 => sp (x :: (vs ++ dvs)) H2 Q E) : tMeth C m sp dvs E ta t σ H Q := h
theorem x_makeK {C : Addr} {n m : Nat} {sp : Sp} {gV : List V → List V → List V} {E : XK} {t tk : TA} (h : t σ H fun vs H1 => tk σ H1 fun zs H2 => vs.length = n ∧ zs.length = m ∧ ∀ x dx, H2 x = none → H2 dx = none → dx ≠ x →
    sp (gV (.ref x :: vs) zs) (upd (upd H2 dx (.own x)) x (.ins C dx [])) (fun v H3 => v = .non ∧ Q (.ref x) H3) E) : tMakeK C n m sp gV E t tk σ H Q := h
end
/-- a list of a new comprehension, its items flat data: the invariant -/
def Grow (K : PySem.W.Frag) (H0 : Hp) (D : Addr) (ds : List PyData) (i : Nat) (H : Hp) : Prop := Same H0 H ∧ ∃ acc, H D = some (.lst acc) ∧ DpAll K H acc (ds.take i)
theorem Grow.start {K : PySem.W.Frag} {H0 : Hp} {D : Addr} {ds : List PyData} (n : H0 D = none) : Grow K H0 D ds 0 (upd H0 D (.lst [])) := ⟨same_upd n, [], upd_same, .nil⟩
theorem Grow.step {K : PySem.W.Frag} {H0 H H' : Hp} {D : Addr} {ds : List PyData} {i : Nat} {v : V} {d : PyData} (g : Grow K H0 D ds i H) (n : H0 D = none) (f : flats ds = true) (hz : ds.length ≤ 1000) (e : ds[i]? = some d) (s : Same H H') (h : Dp K H' v d) :
    ∃ acc, H' D = some (.lst acc) ∧ acc.length < sizeLine ∧ Grow K H0 D ds (i + 1) (upd H' D (.lst (acc ++ [v]))) := by
  obtain ⟨s0, acc, a1, a2⟩ := g
  have a3 := s _ _ a1
  have lt : i < ds.length := (List.getElem?_eq_some_iff.mp e).1
  have la : acc.length = i := by
    rw [dps_len a2, List.length_take]
    omega
  refine ⟨acc, a3, small1000 (by omega), same_new (s0.trans s) n, acc ++ [v], upd_same, ?_⟩
  have t : ds.take (i + 1) = ds.take i ++ [d] := by rw [List.take_add_one, e]; rfl
  have q : DpAll K H' (acc ++ [v]) (ds.take (i + 1)) := by
    rw [t]
    exact dps_snoc h (s.dps a2)
  exact dps_flat a3 _ _ (flats_take f _) q
theorem Grow.done {K : PySem.W.Frag} {H0 H : Hp} {D : Addr} {ds : List PyData} (g : Grow K H0 D ds ds.length H) : Same H0 H ∧ Dp K H (.ref D) (.list ds) := by
  obtain ⟨s0, acc, a1, a2⟩ := g
  rw [List.take_length] at a2
  exact ⟨s0, .lst (SqL.of a1) a2⟩
end Fl
set_option Elab.async false
set_option linter.all false
set_option maxRecDepth 100000
set_option maxHeartbeats 4000000
/-! Loops and comprehensions by their invariants. -/
namespace Fl
open PySem PySem.Spec PyProof.Rows L2
/-- at H0 and ever after, the walk yields n items, the i-th as Y says -/
structure Walk (J : It) (H0 : Hp) (n : Nat) (Y : Nat → V → Hp → Prop) : Prop where
  go : ∀ H i, Same H0 H → i < n → J.go i H
  yld : ∀ H i x H', Same H0 H → i < n → J.yld i H x H' → Same H H' ∧ Y i x H'
  stop : ∀ H, Same H0 H → J.stop n H
theorem getI {α : Type} {l : List α} {i : Nat} (h : i < l.length) : ∃ x, l[i]? = some x := ⟨l[i], List.getElem?_eq_getElem h⟩
section
variable {K : PySem.W.Frag} {H0 : Hp} {a b : Addr} {xs ys : List V}
theorem walk_list (h : SqL K H0 a xs) : Walk (Itl K a) H0 xs.length fun i x _ => xs[i]? = some x where
  go := fun H i s l => by
    obtain ⟨x, e⟩ := getI l
    exact ⟨xs, x, s.seq h, e⟩
  yld := fun H i x H' s l y => by
    obtain ⟨rfl, y2⟩ := y
    exact ⟨Same.refl _, y2 _ (s.seq h)⟩
  stop := fun H s => ⟨xs, s.seq h, Nat.le_refl _⟩
theorem walk_tup (h : SqT K H0 a xs) : Walk (Itt K a) H0 xs.length fun i x _ => xs[i]? = some x where
  go := fun H i s l => by
    obtain ⟨x, e⟩ := getI l
    exact ⟨xs, x, seqT s h, e⟩
  yld := fun H i x H' s l y => by
    obtain ⟨rfl, y2⟩ := y
    exact ⟨Same.refl _, y2 _ (seqT s h)⟩
  stop := fun H s => ⟨xs, seqT s h, Nat.le_refl _⟩
theorem walk_zip {n : Nat} (h1 : SqL K H0 a xs) (h2 : SqL K H0 b ys) (l1 : xs.length = n) (l2 : ys.length = n) :
    Walk (Itz K a b) H0 n fun i v H' => ∃ T x y, v = .ref T ∧ H' T = some (.tup [x, y]) ∧ xs[i]? = some x ∧ ys[i]? = some y where
  go := fun H i s l => by
    obtain ⟨x, e1⟩ := getI (l := xs) (i := i) (by omega)
    obtain ⟨y, e2⟩ := getI (l := ys) (i := i) (by omega)
    exact ⟨xs, ys, x, y, s.seq h1, s.seq h2, e1, e2⟩
  yld := fun H i x H' s l y => by
    obtain ⟨T, x, z, rfl, n, rfl, e1, e2⟩ := y
    exact ⟨same_upd n, T, x, z, rfl, upd_same, e1 _ (s.seq h1), e2 _ (s.seq h2)⟩
  stop := fun H s => ⟨xs, ys, s.seq h1, s.seq h2, .inl (by omega)⟩
theorem walk_enum (h : SqL K H0 a xs) : Walk (Ite K a) H0 xs.length fun i v H' => ∃ T x, v = .ref T ∧ H' T = some (.tup [.int i, x]) ∧ xs[i]? = some x where
  go := fun H i s l => by
    obtain ⟨x, e1⟩ := getI l
    exact ⟨xs, x, s.seq h, e1⟩
  yld := fun H i x H' s l y => by
    obtain ⟨T, x, rfl, n, rfl, e⟩ := y
    exact ⟨same_upd n, T, x, rfl, upd_same, e _ (s.seq h)⟩
  stop := fun H s => ⟨xs, s.seq h, Nat.le_refl _⟩
theorem walk_rng {n : Nat} : Walk (Itr 0 n) H0 n fun i v _ => v = .int i where
  go := fun H i s l => l
  yld := fun H i x H' s l y => by
    obtain ⟨rfl, rfl⟩ := y
    exact ⟨Same.refl _, by rw [Int.zero_add]⟩
  stop := fun H s => Nat.le_refl _
end
section
variable {σ : L2.St} {H : Hp} {Q : VK} {D : Ends} {K : PySem.W.Frag} {g : TG} {tb : TS} {te : TE} {vs : List Nat} {J : It} {H1 : Hp} {QL : Hp → Prop}
theorem for_at (n : Nat) (F : Nat → L2.St → Hp → Prop) (f0 : F 0 σ H1) (fs : ∀ i σ' H', i < n → F i σ' H' → J.go i H' ∧ ∀ x H2, J.yld i H' x H2 → g x σ' H2 fun σ3 H3 => tb { D with nx := F (i + 1), ct := F (i + 1), bk := D.nx } σ3 H3)
    (fe : ∀ σ' H', F n σ' H' → J.stop n H' ∧ D.nx σ' H') : ∃ W : Nat → Nat → L2.St → Hp → Prop, (∃ m, W 0 m σ H1) ∧ ∀ i m σ H, W i m σ H →
    (J.stop i H ∧ D.nx σ H) ∨ (J.go i H ∧ ∃ N : L2.St → Hp → Prop, (∀ σ' H', N σ' H' → ∃ m', m' < m ∧ W (i + 1) m' σ' H') ∧ ∀ x H', J.yld i H x H' → g x σ H' fun σ2 H2 => tb { D with nx := N, ct := N, bk := D.nx } σ2 H2) := by
  refine ⟨fun i m σ' H' => i ≤ n ∧ m = n - i ∧ F i σ' H', ⟨n, Nat.zero_le _, rfl, f0⟩, fun i m σ' H' w => ?_⟩
  obtain ⟨w1, w2, w3⟩ := w
  by_cases e : i = n
  · subst e
    exact .inl (fe _ _ w3)
  · have lt : i < n := by omega
    obtain ⟨q1, q2⟩ := fs i σ' H' lt w3
    exact .inr ⟨q1, F (i + 1), fun σ2 H2 z => ⟨n - (i + 1), by omega, by omega, rfl, z⟩, q2⟩
theorem lc_at {L : Addr} (n : Nat) (F : Nat → List V → Hp → Prop) (hn : n ≤ 1000) (f0 : F 0 [] (upd H1 L (.lst [])))
    (fs : ∀ i acc H2, i < n → acc.length = i → H2 L = some (.lst acc) → F i acc H2 → J.go i H2 ∧ ∀ x H3, J.yld i H2 x H3 → ∀ P : VK, (∀ v H5, H5 L = some (.lst acc) → F (i + 1) (acc ++ [v]) (upd H5 L (.lst (acc ++ [v]))) → P v H5) →
      g x (wipe σ vs) H3 fun σ2 H4 => wipe σ2 vs = wipe σ vs ∧ te σ2 H4 P)
    (fe : ∀ acc H2, acc.length = n → H2 L = some (.lst acc) → F n acc H2 → J.stop n H2 ∧ QL H2) :
    ∃ W : Nat → Nat → Hp → Prop, (∃ m, W 0 m (upd H1 L (.lst []))) ∧ ∀ i m H, W i m H →
      (J.stop i H ∧ QL H) ∨ (J.go i H ∧ ∃ Nx : Hp → Prop, (∀ H', Nx H' → ∃ m', m' < m ∧ W (i + 1) m' H') ∧ ∀ x H', J.yld i H x H' → g x (wipe σ vs) H' fun σ2 H2 => wipe σ2 vs = wipe σ vs ∧ tYes σ2 H2 fun b H3 =>
        if b = true then te σ2 H3 fun y H4 => ∃ acc, H4 L = some (.lst acc) ∧ acc.length < sizeLine ∧ Nx (upd H4 L (.lst (acc ++ [y]))) else Nx H3) := by
  refine ⟨fun i m H' => i ≤ n ∧ m = n - i ∧ ∃ acc, acc.length = i ∧ H' L = some (.lst acc) ∧ F i acc H', ⟨n, Nat.zero_le _, rfl, [], rfl, upd_same, f0⟩, fun i m H' w => ?_⟩
  obtain ⟨w1, w2, acc, wl, wa, w3⟩ := w
  by_cases e : i = n
  · subst e
    exact .inl (fe _ _ wl wa w3)
  · have lt : i < n := by omega
    obtain ⟨q1, q2⟩ := fs i acc H' lt wl wa w3
    exact .inr ⟨q1, fun H2 => ∃ acc', acc'.length = i + 1 ∧ H2 L = some (.lst acc') ∧ F (i + 1) acc' H2, fun H2 z => ⟨n - (i + 1), by omega, by omega, rfl, z⟩, fun x H3 y =>
      q2 x H3 y (fun y H4 => ∃ acc, H4 L = some (.lst acc) ∧ acc.length < sizeLine ∧ ∃ acc', acc'.length = i + 1 ∧ (upd H4 L (.lst (acc ++ [y]))) L = some (.lst acc') ∧ F (i + 1) acc' (upd H4 L (.lst (acc ++ [y]))))
        fun v H5 k1 k2 => ⟨acc, k1, small1000 (by omega), acc ++ [v], by rw [List.length_append, wl]; rfl, upd_same, k2⟩⟩
/-- flat data, item by item -/
theorem lc_flat {n : Nat} {Y : Nat → V → Hp → Prop} {L : Addr} (ds : List PyData) (W : Walk J H1 n Y) (ld : ds.length = n) (hn : n ≤ 1000) (fl : flats ds = true) (nL : H1 L = none)
    (st : ∀ i x H2, i < n → Same H1 H2 → Y i x H2 → ∀ P : VK, (∀ v H5 d, Same H2 H5 → ds[i]? = some d → Dp K H5 v d → P v H5) → g x (wipe σ vs) H2 fun σ2 H4 => wipe σ2 vs = wipe σ vs ∧ te σ2 H4 P)
    (en : ∀ H2, Same H1 H2 → Dp K H2 (.ref L) (.list ds) → QL H2) :
    ∃ W : Nat → Nat → Hp → Prop, (∃ m, W 0 m (upd H1 L (.lst []))) ∧ ∀ i m H, W i m H →
      (J.stop i H ∧ QL H) ∨ (J.go i H ∧ ∃ Nx : Hp → Prop, (∀ H', Nx H' → ∃ m', m' < m ∧ W (i + 1) m' H') ∧ ∀ x H', J.yld i H x H' → g x (wipe σ vs) H' fun σ2 H2 => wipe σ2 vs = wipe σ vs ∧ tYes σ2 H2 fun b H3 =>
        if b = true then te σ2 H3 fun y H4 => ∃ acc, H4 L = some (.lst acc) ∧ acc.length < sizeLine ∧ Nx (upd H4 L (.lst (acc ++ [y]))) else Nx H3) := by
  refine lc_at n (fun i acc H2 => Same H1 H2 ∧ DpAll K H2 acc (ds.take i)) hn ⟨same_upd nL, .nil⟩ (fun i acc H2 lt la hL f => ⟨W.go _ _ f.1 lt, fun x H3 y P cl => ?_⟩) (fun acc H2 la hL f => ⟨W.stop _ f.1, en _ f.1 ?_⟩)
  · obtain ⟨y1, y2⟩ := W.yld _ _ _ _ f.1 lt y
    refine st i x H3 lt (f.1.trans y1) y2 P fun v H5 d k1 k2 k3 => ?_
    have hL5 : H5 L = some (.lst acc) := k1 _ _ (y1 _ _ hL)
    refine cl v H5 hL5 ⟨same_new ((f.1.trans y1).trans k1) nL, ?_⟩
    have t : ds.take (i + 1) = ds.take i ++ [d] := by rw [List.take_add_one, k2]; rfl
    have q : DpAll K H5 (acc ++ [v]) (ds.take (i + 1)) := by
      rw [t]
      exact dps_snoc k3 ((y1.trans k1).dps f.2)
    exact dps_flat hL5 _ _ (flats_take fl _) q
  · have f2 : DpAll K H2 acc (ds.take n) := f.2
    have t : ds.take n = ds := by rw [← ld, List.take_length]
    rw [t] at f2
    exact .lst (SqL.of hL) f2
/-- things of one kind, each new or in G -/
theorem lc_obj {α : Type} {n : Nat} {Y : Nat → V → Hp → Prop} {L : Addr} (FP : Hp → V → α → Prop) (mono : ∀ H H' v a, Same H H' → FP H v a → FP H' v a) (G : Hp) (sG : Same G H1) (as : List α) (W : Walk J H1 n Y) (ld : as.length = n) (hn : n ≤ 1000) (nL : H1 L = none)
    (st : ∀ i x H2, i < n → Same H1 H2 → Y i x H2 → ∀ P : VK, (∀ v H5 d, Same H2 H5 → as[i]? = some d → FP (ext G H2 H5) v d → P v H5) → g x (wipe σ vs) H2 fun σ2 H4 => wipe σ2 vs = wipe σ vs ∧ te σ2 H4 P)
    (en : ∀ H2 acc, Same H1 H2 → H2 L = some (.lst acc) → Paired (FP (era L (ext G H1 H2))) acc as → QL H2) :
    ∃ W : Nat → Nat → Hp → Prop, (∃ m, W 0 m (upd H1 L (.lst []))) ∧ ∀ i m H, W i m H →
      (J.stop i H ∧ QL H) ∨ (J.go i H ∧ ∃ Nx : Hp → Prop, (∀ H', Nx H' → ∃ m', m' < m ∧ W (i + 1) m' H') ∧ ∀ x H', J.yld i H x H' → g x (wipe σ vs) H' fun σ2 H2 => wipe σ2 vs = wipe σ vs ∧ tYes σ2 H2 fun b H3 =>
        if b = true then te σ2 H3 fun y H4 => ∃ acc, H4 L = some (.lst acc) ∧ acc.length < sizeLine ∧ Nx (upd H4 L (.lst (acc ++ [y]))) else Nx H3) := by
  refine lc_at n (fun i acc H2 => Same H1 H2 ∧ Paired (FP (era L (ext G H1 H2))) acc (as.take i)) hn ⟨same_upd nL, .nil⟩ (fun i acc H2 lt la hL f => ⟨W.go _ _ f.1 lt, fun x H3 y P cl => ?_⟩) (fun acc H2 la hL f => ⟨W.stop _ f.1, en _ _ f.1 hL ?_⟩)
  · obtain ⟨y1, y2⟩ := W.yld _ _ _ _ f.1 lt y
    refine st i x H3 lt (f.1.trans y1) y2 P fun v H5 d k1 k2 k3 => ?_
    have hL3 : H3 L = some (.lst acc) := y1 _ _ hL
    have hL5 : H5 L = some (.lst acc) := k1 _ _ hL3
    refine cl v H5 hL5 ⟨same_new ((f.1.trans y1).trans k1) nL, ?_⟩
    have t : as.take (i + 1) = as.take i ++ [d] := by rw [List.take_add_one, k2]; rfl
    rw [t]
    have eu : ∀ o, era L (ext G H1 (upd H5 L o)) = era L (ext G H1 H5) := fun o => by
      funext b
      by_cases e : b = L
      · rw [show era L (ext G H1 (upd H5 L o)) b = none from if_pos e, show era L (ext G H1 H5) b = none from if_pos e]
      · rw [era_ne e, era_ne e]
        cases q : H1 b with
        | none => rw [ext_new q, ext_new q, upd_ne e]
        | some u => rw [ext_old q, ext_old q]
    rw [eu]
    refine pair_snoc (mono _ _ _ _ (fun b o e => ?_) k3) (pair_mono (fun a b q => mono _ _ _ _ (era_mono (ext_mono (y1.trans k1))) q) f.2)
    cases q : H3 b with
    | none =>
      rw [ext_new q] at e
      have ne : b ≠ L := fun z => by rw [z, hL3] at q; cases q
      refine era_of ne ?_
      rw [ext_new (Same.free (f.1.trans y1) q)]
      exact e
    | some u =>
      rw [ext_old q] at e
      have e1 := sG _ _ e
      have ne : b ≠ L := fun z => by rw [z, nL] at e1; cases e1
      refine era_of ne ?_
      rw [ext_old e1]
      exact e
  · have f2 := f.2
    have t : as.take n = as := by rw [← ld, List.take_length]
    rw [t] at f2
    exact f2
end
theorem dps_pair {K : PySem.W.Frag} {H : Hp} : ∀ {vs : List V} {ds : List PyData}, Paired (fun v d => Dp K H v d) vs ds → DpAll K H vs ds
  | _, _, .nil => .nil
  | _, _, .cons a b => .cons a (dps_pair b)
theorem pair_dps {K : PySem.W.Frag} {H : Hp} : ∀ {vs : List V} {ds : List PyData}, DpAll K H vs ds → Paired (fun v d => Dp K H v d) vs ds
  | _, _, .nil => .nil
  | _, _, .cons a b => .cons a (pair_dps b)
theorem pair_len {α β : Type} {F : α → β → Prop} : ∀ {l : List α} {m : List β}, Paired F l m → l.length = m.length
  | _, _, .nil => rfl
  | _, _, .cons _ t => congrArg Nat.succ (pair_len t)
/-- the new list with its items, in the new part -/
theorem obj_dp {K : PySem.W.Frag} {G H1 H2 : Hp} {L : Addr} {acc : List V} {ds : List PyData} (n : H1 L = none) (hL : H2 L = some (.lst acc)) (p : Paired (fun v d => Dp K (era L (ext G H1 H2)) v d) acc ds) : Dp K (ext G H1 H2) (.ref L) (.list ds) :=
  .lst (SqL.of (by rw [ext_new n]; exact hL)) (era_sub.dps (dps_pair p))
/-! rules for a comprehension's own frame: the text's part named outright -/
section
variable {X : Cx}
theorem ix_listK (K : PySem.W.Frag) (h : X.K = K) : IxR X (rIxL K) := by subst h; exact ix_list
theorem ix_tupK (K : PySem.W.Frag) (h : X.K = K) : IxR X (rIxT K) := by subst h; exact ix_tup
def rLenS (K : PySem.W.Frag) : List V → Hp → VK → Prop := fun xs H Q => ∃ p ys, xs = [.ref p] ∧ (SqL K H p ys ∨ SqT K H p ys) ∧ Q (.int ys.length) H
def rLofS (K : PySem.W.Frag) : List V → Hp → VK → Prop := fun xs H Q => ∃ p ys, xs = [.ref p] ∧ (SqL K H p ys ∨ SqT K H p ys) ∧ ∀ l, H l = none → Q (.ref l) (upd H l (.lst ys))
theorem lenK (K : PySem.W.Frag) (h : X.K = K) : CallR X (.builtin "len") (rLenS K) := by subst h; exact call_len_seq
theorem lofK (K : PySem.W.Frag) (h : X.K = K) : CallR X (.type "list") (rLofS K) := by subst h; exact call_list_of
theorem sumK (K : PySem.W.Frag) (h : X.K = K) (hc : X.calm = true) : CallR X (.builtin "sum") (rSum K) := by subst h; exact cr_sum hc
theorem maxK (K : PySem.W.Frag) (h : X.K = K) (hc : X.calm = true) : CallR X (.builtin "max") (rMax K) := by subst h; exact cr_max hc
theorem allK (K : PySem.W.Frag) (h : X.K = K) (hc : X.calm = true) : CallR X (.builtin "all") (rAll K) := by subst h; exact cr_all hc
theorem anyK (K : PySem.W.Frag) (h : X.K = K) (hc : X.calm = true) : CallR X (.builtin "any") (rAny K) := by subst h; exact cr_any hc
theorem fldK (K : PySem.W.Frag) (h : X.K = K) {e : Expr} {ta : TE} {f : Str} {pos : Pos} (he : PE X e ta) (hb : attributeBase e f X.env (eval e X.env) = eval e X.env) : PE X (.Attribute e f pos) (tFld K ta f) := by subst h; exact pe_fld he hb
theorem itlK (K : PySem.W.Frag) (h : X.K = K) {tg l : Expr} {tl : TE} (hl : PE X l tl) : PI X tg l (iList K tl) := by subst h; exact pi_list hl
theorem ittK (K : PySem.W.Frag) (h : X.K = K) {tg l : Expr} {tl : TE} (hl : PE X l tl) : PI X tg l (iTup K tl) := by subst h; exact pi_tup hl
theorem itsK (K : PySem.W.Frag) (h : X.K = K) {tg l : Expr} {tl : TE} (hl : PE X l tl) : PI X tg l (iSeq K tl) := by subst h; exact pi_seq hl
end
theorem pe_gi {X : Cx} {x : Str} {n : Int} {p : Pos} (h : ∃ t, X.mg x = some (.int n t)) (hg : Gl X x) (hdb : (x == ("__debug__" : Str)) = false := by decide) : PE X (.Name x p) (tC (.int n)) := by
  obtain ⟨t, h⟩ := h
  exact pe_glob hg h ⟨t, rfl⟩ hdb
/-! targets of comprehensions -/
theorem pg_t2 {X : Cx} (K : PySem.W.Frag) (hK : X.K = K) {x y : Str} {i j k : Nat} {p q pos : Pos} (hc : X.calm = true) (hN : X.N.Nodup) (hi : X.N[i]? = some x) (hj : X.N[j]? = some y) (hx : Loc X.env.scope x) (hy : Loc X.env.scope y)
    (fx : X.fn x = true ∨ X.env.scope.names.lookup x = some .local) (fy : X.fn y = true ∨ X.env.scope.names.lookup y = some .local) : PG X (.Tuple [.Name x p, .Name y q] k pos) (gTup K 2 (gCons (gName i) (gCons (gName j) gNil))) := by
  subst hK
  exact pg_tup hc (pgs_cons (pg_name hN hi hx fx) (pgs_cons (pg_name hN hj hy fy) pgs_nil))
theorem pg_t3 {X : Cx} (K : PySem.W.Frag) (hK : X.K = K) {x y z : Str} {i j l k : Nat} {p q r pos : Pos} (hc : X.calm = true) (hN : X.N.Nodup) (hi : X.N[i]? = some x) (hj : X.N[j]? = some y) (hl : X.N[l]? = some z) (hx : Loc X.env.scope x) (hy : Loc X.env.scope y) (hz : Loc X.env.scope z)
    (fx : X.fn x = true ∨ X.env.scope.names.lookup x = some .local) (fy : X.fn y = true ∨ X.env.scope.names.lookup y = some .local) (fz : X.fn z = true ∨ X.env.scope.names.lookup z = some .local) :
    PG X (.Tuple [.Name x p, .Name y q, .Name z r] k pos) (gTup K 3 (gCons (gName i) (gCons (gName j) (gCons (gName l) gNil)))) := by
  subst hK
  exact pg_tup hc (pgs_cons (pg_name hN hi hx fx) (pgs_cons (pg_name hN hj hy fy) (pgs_cons (pg_name hN hl hz fz) pgs_nil)))
/-! more steps -/
section
variable {σ : L2.St} {H : Hp} {Q : VK} {K : PySem.W.Frag} {p a b : Addr} {xs ys : List V} {R : It → Hp → Prop}
theorem x_itL {P : Addr → Prop} (h : SqL K H a xs) (q : P a) : ∃ a', V.ref a = .ref a' ∧ (∃ xs, SqL K H a' xs) ∧ P a' := ⟨a, rfl, ⟨xs, h⟩, q⟩
theorem x_itT {P : Addr → Prop} (h : SqT K H a xs) (q : P a) : ∃ a', V.ref a = .ref a' ∧ (∃ xs, SqT K H a' xs) ∧ P a' := ⟨a, rfl, ⟨xs, h⟩, q⟩
theorem x_itSL {P P' : Addr → Prop} (h : SqL K H a xs) (q : P a) : ∃ a', V.ref a = .ref a' ∧ ((∃ xs, SqL K H a' xs ∧ P a') ∨ (∃ xs, SqT K H a' xs ∧ P' a')) := ⟨a, rfl, .inl ⟨xs, h, q⟩⟩
theorem x_itST {P P' : Addr → Prop} (h : SqT K H a xs) (q : P' a) : ∃ a', V.ref a = .ref a' ∧ ((∃ xs, SqL K H a' xs ∧ P a') ∨ (∃ xs, SqT K H a' xs ∧ P' a')) := ⟨a, rfl, .inr ⟨xs, h, q⟩⟩
theorem x_itZ {P : Addr → Addr → Prop} (h1 : SqL K H a xs) (h2 : SqL K H b ys) (q : P a b) : ∃ a' b' xs ys, [V.ref a, V.ref b] = [.ref a', .ref b'] ∧ SqL K H a' xs ∧ SqL K H b' ys ∧ P a' b' := ⟨a, b, xs, ys, rfl, h1, h2, q⟩
theorem x_itE {P : Addr → Prop} (h : SqL K H a xs) (q : P a) : ∃ a' xs, [V.ref a] = [.ref a'] ∧ SqL K H a' xs ∧ P a' := ⟨a, xs, rfl, h, q⟩
theorem x_lenL (h : SqL K H p ys) (q : Q (.int ys.length) H) : rLenS K [.ref p] H Q := ⟨p, ys, rfl, .inl h, q⟩
theorem x_lenT (h : SqT K H p ys) (q : Q (.int ys.length) H) : rLenS K [.ref p] H Q := ⟨p, ys, rfl, .inr h, q⟩
theorem x_lofL (h : SqL K H p ys) (q : ∀ l H', Same H H' → H l = none → H' l = some (.lst ys) → Q (.ref l) H') : rLofS K [.ref p] H Q := ⟨p, ys, rfl, .inl h, x_new q⟩
theorem x_lofT (h : SqT K H p ys) (q : ∀ l H', Same H H' → H l = none → H' l = some (.lst ys) → Q (.ref l) H') : rLofS K [.ref p] H Q := ⟨p, ys, rfl, .inr h, x_new q⟩
end
/-! data that == may look at -/
def lay : Nat → PyData → Bool
  | _, .none => true
  | _, .bool _ => true
  | _, .int _ => true
  | _, .str _ => false
  | _, .dict _ => false
  | 0, .list _ => false
  | 0, .tuple _ => false
  | n + 1, .list ds => ds.all (lay n)
  | n + 1, .tuple ds => ds.all (lay n)
theorem lay_all {n : Nat} (h : ∀ d, lay n d = true → d.canLay0 = true ∧ d.depth ≤ n ∧ PyData.eqv d d = true) : ∀ ds : List PyData, ds.all (lay n) = true → PyData.canLayAll0 ds = true ∧ PyData.depthAll ds ≤ n ∧ PyData.eqvAll ds ds = true
  | [], _ => ⟨by rfl, by show 0 ≤ n; omega, by rfl⟩
  | d :: ds, e => by
    rw [List.all_cons, Bool.and_eq_true] at e
    obtain ⟨h1, h2, h3⟩ := h d e.1
    obtain ⟨k1, k2, k3⟩ := lay_all h ds e.2
    refine ⟨by simp only [PyData.canLayAll0, h1, k1, Bool.and_self], ?_, by simp only [PyData.eqvAll, h3, k3, Bool.and_self]⟩
    simp only [PyData.depthAll]
    omega
theorem lay_ok : ∀ (n : Nat) (d : PyData), lay n d = true → d.canLay0 = true ∧ d.depth ≤ n ∧ PyData.eqv d d = true
  | n, .none, _ => ⟨by simp [PyData.canLay0], by simp [PyData.depth], by simp [PyData.eqv]⟩
  | n, .bool _, _ => ⟨by simp [PyData.canLay0], by simp [PyData.depth], by simp [PyData.eqv]⟩
  | n, .int _, _ => ⟨by simp [PyData.canLay0], by simp [PyData.depth], by simp [PyData.eqv]⟩
  | n, .str _, h => by cases n <;> simp [lay] at h
  | n, .dict _, h => by cases n <;> simp [lay] at h
  | 0, .list _, h => by simp [lay] at h
  | 0, .tuple _, h => by simp [lay] at h
  | n + 1, .list ds, h => by
    obtain ⟨k1, k2, k3⟩ := lay_all (lay_ok n) ds (by simpa [lay] using h)
    exact ⟨by simpa [PyData.canLay0] using k1, by simp only [PyData.depth]; omega, by simpa [PyData.eqv] using k3⟩
  | n + 1, .tuple ds, h => by
    obtain ⟨k1, k2, k3⟩ := lay_all (lay_ok n) ds (by simpa [lay] using h)
    exact ⟨by simpa [PyData.canLay0] using k1, by simp only [PyData.depth]; omega, by simpa [PyData.eqv] using k3⟩
theorem lay_sh {n : Nat} {d : PyData} (hn : n ≤ 64) (h : lay n d = true) : SeqAt.shaped d = true := by
  obtain ⟨h1, h2, _⟩ := lay_ok n d h
  unfold SeqAt.shaped
  rw [h1, decide_eq_true (by omega)]
  rfl
theorem lay_refl {n : Nat} {d : PyData} (h : lay n d = true) : PyData.eqv d d = true := (lay_ok n d h).2.2
theorem lay_pD (p : Rt) : lay 1 (pD p) = true := by simp [pD, lay]
theorem pD_eqv (a b : Rt) : PyData.eqv (pD a) (pD b) = decide (a = b) := by
  obtain ⟨a1, a2⟩ := a
  obtain ⟨b1, b2⟩ := b
  simp only [pD, PyData.eqv, PyData.eqvAll, Bool.and_true]
  by_cases h1 : a1 = b1
  · by_cases h2 : a2 = b2
    · simp [h1, h2]
    · simp [h1, h2]
  · simp [h1]
theorem x_eqP {K : PySem.W.Frag} {H : Hp} {Q : VK} {x y : V} {a b : Rt} (h1 : Dp K H x (pD a)) (h2 : Dp K H y (pD b)) (q : Q (.bl (decide (a = b))) H) : rEqD K x y H Q :=
  ⟨pD a, pD b, h1, h2, lay_sh (by decide) (lay_pD a), lay_sh (by decide) (lay_pD b), by rw [pD_eqv]; exact q⟩
/-- a walk over nothing -/
theorem for_none {J : It} {H : Hp} {σ : L2.St} {D : Ends} {g : TG} {tb : TS} {Y : Nat → V → Hp → Prop} (W : Walk J H 0 Y) (h : D.nx σ H) : ∃ W : Nat → Nat → L2.St → Hp → Prop, (∃ m, W 0 m σ H) ∧ ∀ i m σ H, W i m σ H →
    (J.stop i H ∧ D.nx σ H) ∨ (J.go i H ∧ ∃ N : L2.St → Hp → Prop, (∀ σ' H', N σ' H' → ∃ m', m' < m ∧ W (i + 1) m' σ' H') ∧ ∀ x H', J.yld i H x H' → g x σ H' fun σ2 H2 => tb { D with nx := N, ct := N, bk := D.nx } σ2 H2) :=
  for_at 0 (fun _ σ' H' => σ' = σ ∧ H' = H) ⟨rfl, rfl⟩ (fun i _ _ lt => absurd lt (Nat.not_lt_zero i)) fun σ' H' e => by
    obtain ⟨rfl, rfl⟩ := e
    exact ⟨W.stop _ (Same.refl _), h⟩
theorem for_noneL {K : PySem.W.Frag} {a : Addr} {H : Hp} {σ : L2.St} {D : Ends} {g : TG} {tb : TS} (w : SqL K H a []) (h : D.nx σ H) : ∃ W : Nat → Nat → L2.St → Hp → Prop, (∃ m, W 0 m σ H) ∧ ∀ i m σ H, W i m σ H →
    ((Itl K a).stop i H ∧ D.nx σ H) ∨ ((Itl K a).go i H ∧ ∃ N : L2.St → Hp → Prop, (∀ σ' H', N σ' H' → ∃ m', m' < m ∧ W (i + 1) m' σ' H') ∧ ∀ x H', (Itl K a).yld i H x H' → g x σ H' fun σ2 H2 => tb { D with nx := N, ct := N, bk := D.nx } σ2 H2) := for_none (walk_list w) h
theorem dps_ints {K : PySem.W.Frag} {H : Hp} : ∀ {vs : List V} {ns : List Int}, DpAll K H vs (ns.map PyData.int) → vs = ns.map V.int
  | _, [], h => by cases h; rfl
  | _, n :: ns, h => by
    obtain ⟨v, r, rfl, h1, h2⟩ := dps_cons h
    rw [dp_int h1, dps_ints h2]
    rfl
theorem dps_bls {K : PySem.W.Frag} {H : Hp} : ∀ {vs : List V} {bs : List Bool}, DpAll K H vs (bs.map PyData.bool) → vs = bs.map V.bl
  | _, [], h => by cases h; rfl
  | _, n :: ns, h => by
    obtain ⟨v, r, rfl, h1, h2⟩ := dps_cons h
    rw [dp_bl h1, dps_bls h2]
    rfl
theorem dp_ints {K : PySem.W.Frag} {H : Hp} {v : V} {ns : List Int} (h : Dp K H v (.list (ns.map PyData.int))) : ∃ a, v = .ref a ∧ SqL K H a (ns.map V.int) := by
  obtain ⟨a, xs, rfl, h1, h2⟩ := dp_lst h
  rw [dps_ints h2] at h1
  exact ⟨a, rfl, h1⟩
theorem dp_bls {K : PySem.W.Frag} {H : Hp} {v : V} {bs : List Bool} (h : Dp K H v (.list (bs.map PyData.bool))) : ∃ a, v = .ref a ∧ SqL K H a (bs.map V.bl) := by
  obtain ⟨a, xs, rfl, h1, h2⟩ := dp_lst h
  rw [dps_bls h2] at h1
  exact ⟨a, rfl, h1⟩
theorem dp_nilL {K : PySem.W.Frag} {H : Hp} {v : V} (h : Dp K H v (.list [])) : ∃ a, v = .ref a ∧ SqL K H a [] := by
  obtain ⟨a, xs, rfl, h1, h2⟩ := dp_lst h
  rw [dps_nil h2] at h1
  exact ⟨a, rfl, h1⟩
end Fl
set_option Elab.async false
set_option linter.all false
set_option maxRecDepth 100000
set_option maxHeartbeats 4000000
/-! Yet more steps. -/
namespace Fl
open PySem PySem.Spec PyProof.Rows L2
section
variable {σ : L2.St} {H : Hp} {Q : VK} {K : PySem.W.Frag} {l b : Addr} {xs zs : List V} {k : Int} {D : Ends}
theorem x_rep (h : H l = some (.lst xs)) (h1 : -(2 ^ 63) ≤ k) (h2 : k < 2 ^ 63) (hz : xs.length * k.toNat ≤ sizeLine) (q : ∀ p H', Same H H' → H p = none → H' p = some (.lst (List.replicate k.toNat xs).flatten) → Q (.ref p) H') : rRep (.ref l) (.int k) H Q :=
  ⟨l, k, xs, rfl, rfl, h, h1, h2, hz, x_new q⟩
theorem x_cat (h1 : H l = some (.lst xs)) (h2 : H b = some (.lst zs)) (hz : xs.length + zs.length ≤ sizeLine) (q : ∀ p H', Same H H' → H p = none → H' p = some (.lst (xs ++ zs)) → Q (.ref p) H') : rCat (.ref l) (.ref b) H Q :=
  ⟨l, b, xs, zs, rfl, rfl, h1, h2, hz, x_new q⟩
theorem x_dnew (q : ∀ p H', Same H H' → H p = none → H' p = some (.dK []) → Q (.ref p) H') : tDNewK σ H Q := x_new q
/-- xs.append(y), the list alone changes -/
theorem x_app {y : V} (h : H l = some (.lst xs)) (hz : xs.length < sizeLine) (q : Q .non (upd H l (.lst (xs ++ [y])))) : rAppend (.ref l) [y] H Q := ⟨l, xs, y, rfl, rfl, h, hz, q⟩
theorem x_mt {a C dx : Addr} {fs : List (Str × V)} {m : Str} {P : Prop} (h : H a = some (.ins C dx fs)) (l : fs.lookup m = none) (q : P) : ∃ a' dx fs, V.ref a = .ref a' ∧ H a' = some (.ins C dx fs) ∧ fs.lookup m = none ∧ P := ⟨a, dx, fs, rfl, h, l, q⟩
theorem x_js {t : TE} {ts : List TE} {acc : Str} {Q : Str → Hp → Prop} (h : t σ H fun x H1 => ∃ y : Str, x = .str y ∧ (acc ++ y).length ≤ sizeLine ∧ tJs ts (acc ++ y) σ H1 Q) : tJs (t :: ts) acc σ H Q := h
theorem x_js0 {acc : Str} {Q : Str → Hp → Prop} (h : Q acc H) : tJs [] acc σ H Q := h
theorem x_fmtI {te : TE} (h : te σ H fun x H1 => (∃ y : Str, x = .str y ∧ y.length ≤ sizeLine ∧ Q (.str y) H1) ∨ ∃ i : Int, x = .int i ∧ i.natAbs.log2 < 1920 ∧ Q (.str (toString i)) H1) : tFmt te σ H Q := h
theorem glyph_txt (i : Nat) (h : i < 3) : ((i : Int).natAbs.log2 < 1920) ∧ ((Str.empty ++ ("glyph " : Str)) ++ (toString (i : Int) : Str)).length ≤ sizeLine := by
  have h3 : i = 0 ∨ i = 1 ∨ i = 2 := by omega
  rcases h3 with rfl | rfl | rfl <;> exact ⟨by decide, by decide⟩
theorem x_make {C : Addr} {sp : Sp} {dvs : List V} {E : XK} {t : TA} (h : t σ H fun vs H1 => ∀ x dx, H1 x = none → H1 dx = none → dx ≠ x → sp (.ref x :: (vs ++ dvs)) (upd (upd H1 dx (.own x)) x (.ins C dx [])) (fun v H2 => v = .non ∧ Q (.ref x) H2) E) : tMake C sp dvs E t σ H Q := h
end
section
variable {σ : L2.St} {H : Hp} {Q : VK} {D : Ends} {K : PySem.W.Frag} {g : TG} {tb : TS} {te : TE} {vs : List Nat} {J : It} {H1 : Hp} {QL : Hp → Prop}
/-- flat data, item by item; the list itself -/
theorem lc_flatR {n : Nat} {Y : Nat → V → Hp → Prop} {L : Addr} (ds : List PyData) (W : Walk J H1 n Y) (ld : ds.length = n) (hn : n ≤ 1000) (fl : flats ds = true) (nL : H1 L = none)
    (st : ∀ i x H2, i < n → Same H1 H2 → Y i x H2 → ∀ P : VK, (∀ v H5 d, Same H2 H5 → ds[i]? = some d → Dp K H5 v d → P v H5) → g x (wipe σ vs) H2 fun σ2 H4 => wipe σ2 vs = wipe σ vs ∧ te σ2 H4 P)
    (en : ∀ H2 acc, Same H1 H2 → H2 L = some (.lst acc) → DpAll K H2 acc ds → QL H2) :
    ∃ W : Nat → Nat → Hp → Prop, (∃ m, W 0 m (upd H1 L (.lst []))) ∧ ∀ i m H, W i m H →
      (J.stop i H ∧ QL H) ∨ (J.go i H ∧ ∃ Nx : Hp → Prop, (∀ H', Nx H' → ∃ m', m' < m ∧ W (i + 1) m' H') ∧ ∀ x H', J.yld i H x H' → g x (wipe σ vs) H' fun σ2 H2 => wipe σ2 vs = wipe σ vs ∧ tYes σ2 H2 fun b H3 =>
        if b = true then te σ2 H3 fun y H4 => ∃ acc, H4 L = some (.lst acc) ∧ acc.length < sizeLine ∧ Nx (upd H4 L (.lst (acc ++ [y]))) else Nx H3) := by
  refine lc_at n (fun i acc H2 => Same H1 H2 ∧ DpAll K H2 acc (ds.take i)) hn ⟨same_upd nL, .nil⟩ (fun i acc H2 lt la hL f => ⟨W.go _ _ f.1 lt, fun x H3 y P cl => ?_⟩) (fun acc H2 la hL f => ⟨W.stop _ f.1, en _ _ f.1 hL ?_⟩)
  · obtain ⟨y1, y2⟩ := W.yld _ _ _ _ f.1 lt y
    refine st i x H3 lt (f.1.trans y1) y2 P fun v H5 d k1 k2 k3 => ?_
    have hL5 : H5 L = some (.lst acc) := k1 _ _ (y1 _ _ hL)
    refine cl v H5 hL5 ⟨same_new ((f.1.trans y1).trans k1) nL, ?_⟩
    have t : ds.take (i + 1) = ds.take i ++ [d] := by rw [List.take_add_one, k2]; rfl
    have q : DpAll K H5 (acc ++ [v]) (ds.take (i + 1)) := by
      rw [t]
      exact dps_snoc k3 ((y1.trans k1).dps f.2)
    exact dps_flat hL5 _ _ (flats_take fl _) q
  · have f2 : DpAll K H2 acc (ds.take n) := f.2
    have t : ds.take n = ds := by rw [← ld, List.take_length]
    rw [t] at f2
    exact f2
end
end Fl
set_option Elab.async false
set_option linter.all false
set_option maxRecDepth 100000
set_option maxHeartbeats 4000000
/-! What is new since a heap; lists under work; moves as data. -/
namespace Fl
open PySem PySem.Spec PyProof.Rows L2
section
variable {K : PySem.W.Frag} {G H H0 H' H1 H2 H3 : Hp} {v : V} {d : PyData} {p : Addr}
/-- the objects that are new since H -/
def nw (H H' : Hp) : Hp := fun b => match H b with
  | none => H' b
  | some _ => none
theorem nw_new {b : Addr} (h : H b = none) : nw H H' b = H' b := by
  unfold nw
  rw [h]
theorem nw_old {b : Addr} {o : HO} (h : H b = some o) : nw H H' b = none := by
  unfold nw
  rw [h]
theorem nw_sub : Same (nw H H') H' := fun b o e => by
  cases q : H b with
  | none =>
    rw [nw_new q] at e
    exact e
  | some u =>
    rw [nw_old q] at e
    cases e
theorem nw_mono (s : Same H1 H2) : Same (nw H H1) (nw H H2) := fun b o e => by
  cases q : H b with
  | none =>
    rw [nw_new q] at e ⊢
    exact s b o e
  | some u =>
    rw [nw_old q] at e
    cases e
theorem nw_back (dom : ∀ b, H1 b = none → H0 b = none) : Same (nw H1 H') (nw H0 H') := fun b o e => by
  cases q : H1 b with
  | none =>
    rw [nw_new q] at e
    rw [nw_new (dom b q)]
    exact e
  | some u =>
    rw [nw_old q] at e
    cases e
theorem nw_era (dom : ∀ b, H1 b = none → H0 b = none) (hp : H1 p ≠ none) : Same (nw H1 H') (era p (nw H0 H')) := fun b o e => by
  have n : H1 b = none := by
    cases q : H1 b with
    | none => rfl
    | some u =>
      rw [nw_old q] at e
      cases e
  exact era_of (fun z => hp (by rw [← z]; exact n)) (nw_back dom b o e)
theorem nw_ext : Same (nw H H') (ext G H H') := fun b o e => by
  cases q : H b with
  | none =>
    rw [nw_new q] at e
    rw [ext_new q]
    exact e
  | some u =>
    rw [nw_old q] at e
    cases e
/-- flat data beside a dict -/
theorem upd_tupD {a D : Addr} {xs : List V} {ks : List (Key × V)} {o : HO} (hD : H D = some (.dK ks)) (h : SqT K H a xs) : SqT K (upd H D o) a xs := by
  rcases h with (h | ⟨u, h⟩) | h
  · exact .inl (.inl (by rw [upd_ne (ne_of h hD (by intro z; cases z))]; exact h))
  · exact .inl (.inr ⟨u, by rw [upd_ne (ne_of h hD (by intro z; cases z))]; exact h⟩)
  · exact .inr h
mutual
theorem dp_flatD {D : Addr} {ks : List (Key × V)} {o : HO} (hD : H D = some (.dK ks)) : ∀ (d : PyData) (v : V), flat d = true → Dp K H v d → Dp K (upd H D o) v d
  | .none, _, _, h => by cases h; exact .non
  | .bool b, _, _, h => by cases h; exact .bl b
  | .int i, _, _, h => by cases h; exact .int i
  | .str x, _, _, h => by cases h; exact .str x
  | .list ds, _, f, _ => by cases f
  | .tuple ds, _, f, h => by
    cases h with
    | tup hs ha => exact .tup (upd_tupD hD hs) (dps_flatD hD ds _ f ha)
  | .dict _, _, _, h => by cases h
theorem dps_flatD {D : Addr} {ks : List (Key × V)} {o : HO} (hD : H D = some (.dK ks)) : ∀ (ds : List PyData) (vs : List V), flats ds = true → DpAll K H vs ds → DpAll K (upd H D o) vs ds
  | [], _, _, h => by cases h; exact .nil
  | d :: ds, _, f, h => by
    obtain ⟨f1, f2⟩ := Bool.and_eq_true_iff.mp (show (flat d && flats ds) = true from f)
    cases h with
    | cons h1 h2 => exact .cons (dp_flatD hD d _ f1 h1) (dps_flatD hD ds _ f2 h2)
end
end
section
variable {K : PySem.W.Frag} {H H0 H' H1 H2 : Hp} {p : Addr} {ds : List PyData}
/-- a list under work at p, begun after H0; its items are new since H0 and apart from it -/
def Lst (K : PySem.W.Frag) (H0 : Hp) (p : Addr) (H' : Hp) (ds : List PyData) : Prop := H0 p = none ∧ ∃ acc, H' p = some (.lst acc) ∧ DpAll K (era p (nw H0 H')) acc ds
theorem Lst.start (n : H0 p = none) (e : H' p = some (.lst [])) : Lst K H0 p H' [] := ⟨n, [], e, .nil⟩
theorem Lst.keep (l : Lst K H0 p H1 ds) (s : Same H1 H2) : Lst K H0 p H2 ds := by
  obtain ⟨n, acc, e, h⟩ := l
  exact ⟨n, acc, s _ _ e, (era_mono (nw_mono s)).dps h⟩
theorem nw_upd (n : H0 p = none) {o : HO} : era p (nw H0 (upd H1 p o)) = era p (nw H0 H1) := by
  funext b
  by_cases e : b = p
  · rw [show era p (nw H0 (upd H1 p o)) b = none from if_pos e, show era p (nw H0 H1) b = none from if_pos e]
  · rw [era_ne e, era_ne e]
    cases q : H0 b with
    | none => rw [nw_new q, nw_new q, upd_ne e]
    | some u => rw [nw_old q, nw_old q]
theorem Lst.push (l : Lst K H0 p H1 ds) {v : V} {d : PyData} (h : Dp K (era p (nw H0 H1)) v d) (hz : ds.length < 1000) : ∃ acc, H1 p = some (.lst acc) ∧ acc.length < sizeLine ∧ Lst K H0 p (upd H1 p (.lst (acc ++ [v]))) (ds ++ [d]) := by
  obtain ⟨n, acc, e, ha⟩ := l
  refine ⟨acc, e, small1000 (by rw [dps_len ha]; omega), n, acc ++ [v], upd_same, ?_⟩
  rw [nw_upd n]
  exact dps_snoc h ha
theorem Lst.done (l : Lst K H0 p H1 ds) : Dp K (nw H0 H1) (.ref p) (.list ds) := by
  obtain ⟨n, acc, e, ha⟩ := l
  exact .lst (SqL.of (by rw [nw_new n]; exact e)) (era_sub.dps ha)
/-! moves -/
def mvD (m : Mv) : PyData := .tuple [pD m.1, pD m.2]
theorem flat_mv (m : Mv) : flat (mvD m) = true := rfl
def SumsAt (K : PySem.W.Frag) (H : Hp) (kvs : List (Key × V)) (f : Int → Option Mv) : Prop := ∀ p : Int, (valV kvs (.inl p) = none ∧ f p = none) ∨ ∃ v m, valV kvs (.inl p) = some v ∧ f p = some m ∧ Dp K H v (mvD m)
theorem SumsAt.same {kvs : List (Key × V)} {f : Int → Option Mv} (s : Same H H') (h : SumsAt K H kvs f) : SumsAt K H' kvs f := fun p => (h p).elim .inl fun ⟨v, m, a, b, c⟩ => .inr ⟨v, m, a, b, s.dp c⟩
theorem SumsAt.flat {D : Addr} {ks kvs : List (Key × V)} {f : Int → Option Mv} {o : HO} (hD : H D = some (.dK ks)) (h : SumsAt K H kvs f) : SumsAt K (upd H D o) kvs f := fun p => (h p).elim .inl fun ⟨v, m, a, b, c⟩ => .inr ⟨v, m, a, b, dp_flatD hD _ _ (flat_mv m) c⟩
theorem SumsAt.put {kvs : List (Key × V)} {f : Int → Option Mv} (h : SumsAt K H kvs f) {q : Int} {v : V} {m : Mv} (hv : Dp K H v (mvD m)) : SumsAt K H (putK kvs (.inl q) v) fun j => if j = q then some m else f j := fun p => by
  have e0 : valV (putK kvs (.inl q) v) (.inl p) = if (Sum.inl p : Key) = .inl q then some v else valV kvs (.inl p) := valV_put kvs (.inl q) (.inl p) v
  by_cases e : p = q
  · rw [if_pos (by rw [e])] at e0
    exact .inr ⟨v, m, e0, if_pos e, hv⟩
  · rw [if_neg (fun z => e (Sum.inl.inj z))] at e0
    have e1 : (if p = q then some m else f p) = f p := if_neg e
    rcases h p with ⟨a, b⟩ | ⟨v', m', a, b, c⟩
    · exact .inl ⟨e0.trans a, e1.trans b⟩
    · exact .inr ⟨v', m', e0.trans a, e1.trans b, c⟩
theorem putK_len (kvs : List (Key × V)) (k : Key) (v : V) : (putK kvs k v).length ≤ kvs.length + 1 := by
  unfold putK
  split
  · rw [List.length_map]
    omega
  · rw [List.length_append]
    exact Nat.le_refl _
theorem SumsAt.get {kvs : List (Key × V)} {f : Int → Option Mv} (h : SumsAt K H kvs f) {z : V} (hz : Dp K H z (mvD mv0)) (p : Int) : Dp K H ((valV kvs (.inl p)).getD z) (mvD ((f p).getD mv0)) := by
  rcases h p with ⟨a, b⟩ | ⟨v, m, a, b, c⟩
  · rw [a, b]
    exact hz
  · rw [a, b]
    exact c
theorem SumsAt.isSome {kvs : List (Key × V)} {f : Int → Option Mv} (h : SumsAt K H kvs f) (p : Int) : (valV kvs (.inl p)).isSome = (f p).isSome := by
  rcases h p with ⟨a, b⟩ | ⟨v, m, a, b, c⟩ <;> rw [a, b] <;> rfl
def MovesAt (K : PySem.W.Frag) (H : Hp) (v : V) (f : Int → Option Mv) : Prop := ∃ (a dx d : Addr) (kvs : List (Key × V)), v = .ref a ∧ H a = some (.ins (He.ga K "Moves") dx [("sums", .ref d)]) ∧ H d = some (.dK kvs) ∧ SumsAt K H kvs f
theorem MovesAt.same {v : V} {f : Int → Option Mv} (s : Same H H') (h : MovesAt K H v f) : MovesAt K H' v f := by
  obtain ⟨a, dx, d, kvs, e, h1, h2, h3⟩ := h
  exact ⟨a, dx, d, kvs, e, s _ _ h1, s _ _ h2, h3.same s⟩
theorem dp_mv {v : V} {m : Mv} (h : Dp K H v (mvD m)) : ∃ a x y, v = .ref a ∧ SqT K H a [x, y] ∧ Dp K H x (pD m.1) ∧ Dp K H y (pD m.2) := by
  obtain ⟨a, xs, rfl, h1, h2⟩ := dp_tup h
  obtain ⟨x, r, rfl, hx, h2⟩ := dps_cons h2
  obtain ⟨y, r, rfl, hy, h2⟩ := dps_cons h2
  rw [dps_nil h2] at h1
  exact ⟨a, x, y, rfl, h1, hx, hy⟩
theorem mv_dp {a : Addr} {x y : V} {m : Mv} (h : SqT K H a [x, y]) (hx : Dp K H x (pD m.1)) (hy : Dp K H y (pD m.2)) : Dp K H (.ref a) (mvD m) := .tup h (.cons hx (.cons hy .nil))
/-! steps for dicts -/
variable {σ : L2.St} {Q : VK} {d : Addr} {kvs : List (Key × V)}
theorem x_dget2 {td ty tx : TE} (h : td σ H fun x H1 => ∃ a, x = .ref a ∧ IsD H1 a ∧ ty σ H1 fun y H2 => tx σ H2 fun z H3 => ∃ o, DGet H3 a y o ∧ Q (o.getD z) H3) : tDGet2 td ty tx σ H Q := h
theorem x_isD {R : Addr → Prop} (h : H d = some (.dK kvs)) (q : R d) : ∃ a, V.ref d = .ref a ∧ IsD H a ∧ R a := ⟨d, rfl, .inl ⟨kvs, .inl h⟩, q⟩
theorem x_dg {p : Int} {P : Option V → Prop} (h : H d = some (.dK kvs)) (q : P (valV kvs (.inl p))) : ∃ o, DGet H d (.int p) o ∧ P o := ⟨_, DGet.k (k := .inl p) h, q⟩
theorem x_din {ty td : TE} (h : ty σ H fun y H1 => td σ H1 fun x H2 => ∃ a o, x = .ref a ∧ DGet H2 a y o ∧ Q (.bl o.isSome) H2) : tDIn ty td σ H Q := h
theorem x_dinA {p : Int} {P : Option V → Prop} (h : H d = some (.dK kvs)) (q : P (valV kvs (.inl p))) : ∃ a o, V.ref d = .ref a ∧ DGet H a (.int p) o ∧ P o := ⟨d, _, rfl, DGet.k (k := .inl p) h, q⟩
theorem x_dputA {p : Int} {v : V} {P : Hp → Prop} (h : H d = some (.dK kvs)) (hl : kvs.length < 1000) (q : P (upd H d (.dK (putK kvs (.inl p) v)))) : ∃ a H4, V.ref d = .ref a ∧ DPut H a (.int p) v H4 ∧ P H4 := ⟨d, _, rfl, DPut.k (k := .inl p) h (small1000 (by omega)), q⟩
theorem x_dput {td ty tv : TE} {D : Ends} (h : tv σ H fun v H1 => td σ H1 fun x H2 => ty σ H2 fun y H3 => ∃ a H4, x = .ref a ∧ DPut H3 a y v H4 ∧ D.nx σ H4) : sDPut td ty tv D σ H := h
end
end Fl
set_option Elab.async false
set_option linter.all false
set_option maxRecDepth 100000
set_option maxHeartbeats 4000000
/-! List or tuple; OutOfRange. -/
namespace Fl
open PySem PySem.Spec PyProof.Rows L2
section
variable {K : PySem.W.Frag} {G H H0 H' H1 H2 : Hp} {σ : L2.St} {Q : VK} {a : Addr} {xs : List V} {i : Nat}
abbrev SqB (K : PySem.W.Frag) (H : Hp) (a : Addr) (xs : List V) : Prop := SqL K H a xs ∨ SqT K H a xs
theorem sqB_same (s : Same H H') (h : SqB K H a xs) : SqB K H' a xs := h.elim (fun h => .inl (s.seq h)) fun h => .inr (seqT s h)
theorem x_lcSeq {g : TG} {tt : TT} {te : TE} {vs : List Nat} (hv : σ[i]? = some (some (.ref a))) (h : SqB K H a xs) (q : ∀ J, Walk J H xs.length (fun i x _ => xs[i]? = some x) → ∀ D, H D = none → ∃ W : Nat → Nat → Hp → Prop, (∃ m, W 0 m (upd H D (.lst []))) ∧ ∀ i m H, W i m H →
      (J.stop i H ∧ Q (.ref D) H) ∨ (J.go i H ∧ ∃ Nx : Hp → Prop, (∀ H', Nx H' → ∃ m', m' < m ∧ W (i + 1) m' H') ∧ ∀ x H', J.yld i H x H' → g x (wipe σ vs) H' fun σ2 H2 => wipe σ2 vs = wipe σ vs ∧ tt σ2 H2 fun b H3 =>
        if b = true then te σ2 H3 fun y H4 => ∃ acc, H4 D = some (.lst acc) ∧ acc.length < sizeLine ∧ Nx (upd H4 D (.lst (acc ++ [y]))) else Nx H3)) : tLc (iSeq K (tVar i)) g tt te vs σ H Q := by
  refine x_lc (x_iSeq ⟨.ref a, hv, a, rfl, ?_⟩)
  rcases h with h | h
  · exact .inl ⟨xs, h, q _ (walk_list h)⟩
  · exact .inr ⟨xs, h, q _ (walk_tup h)⟩
theorem x_lofB (h : SqB K H a xs) (q : ∀ l H', Same H H' → H l = none → H' l = some (.lst xs) → Q (.ref l) H') : rLofS K [.ref a] H Q := ⟨a, xs, rfl, h, x_new q⟩
/-- a list or a tuple at H, its items in G -/
def SeqD (K : PySem.W.Frag) (H G : Hp) (v : V) (ds : List PyData) : Prop := ∃ a xs, v = .ref a ∧ SqB K H a xs ∧ DpAll K G xs ds
theorem SeqD.same {v : V} {ds : List PyData} (s : Same H H') (h : SeqD K H G v ds) : SeqD K H' G v ds := by
  obtain ⟨a, xs, e, h1, h2⟩ := h
  exact ⟨a, xs, e, sqB_same s h1, h2⟩
theorem SeqD.of {v : V} {ds : List PyData} (h : Dp K H v (.list ds)) : SeqD K H H v ds := by
  obtain ⟨a, xs, e, h1, h2⟩ := dp_lst h
  exact ⟨a, xs, e, .inl h1, h2⟩
theorem SeqD.nil {v : V} (h : Dp K H v (.list [])) : SeqD K H G v [] := by
  obtain ⟨a, e, h1⟩ := dp_nilL h
  exact ⟨a, [], e, .inl h1, .nil⟩
theorem SeqD.tup (h : SqT K H a []) : SeqD K H G (.ref a) [] := ⟨a, [], rfl, .inr h, .nil⟩
/-- a copy of it -/
theorem SeqD.copy {ds : List PyData} {l : Addr} {xs : List V} (h : DpAll K G xs ds) (g : Same G H) (n : H0 l = none) (s0 : Same H0 H) (g0 : Same G H0) (e : H' l = some (.lst xs)) (s : Same H H') : Dp K (ext G H0 H') (.ref l) (.list ds) :=
  .lst (SqL.of (by rw [ext_new n]; exact e)) ((sub_ext g0).dps h)
theorem nw_ext_nw (s : Same H H1) (s' : Same H1 H') : Same (ext (nw H H1) H1 H') (nw H H') := fun b o e => by
  cases q : H1 b with
  | none =>
    rw [ext_new q] at e
    rw [nw_new (Same.free s q)]
    exact e
  | some u =>
    rw [ext_old q] at e
    exact nw_mono s' b o e
end
/-! ### OutOfRange(number), raised -/
structure KeptO (P : Program) (w : World) (K : PySem.W.Frag) (mg : Str → Option Value) (base : Heap) (CX : CXT) (k : Nat) (x : Str) (C : Addr) (ps : List Str) (sp : Sp) : Prop where
  ex : ∃ (f : Addr) (fd : FuncData), mg x = some (.ref C) ∧ OexC K C ∧ PySem.W.findIn K (.ref C) "__init__" = some (some (.ref f)) ∧ PySem.W.typeIn K (.ref f) = some (.type "function") ∧ Binds K fd ps [] ∧ FnOk P w K mg base CX k f fd ps sp
section
variable {X : Cx} {CX : CXT} {k j : Nat} {C : Addr} {ps : List Str} {sp : Sp} {x : Str} {p pos : Pos} {e : Expr} {es : List Expr} {t : TA}
theorem pmk_ko (G : KeptO X.prog X.w X.K X.mg X.base CX k x C ps sp) (hk : k + 1 ≤ j) (hr : Room j X.A) (hg : Gl X x) (hx : Passes CX X (fun _ _ _ => False)) (ha : PA X (e :: es) t) (hdb : (x == ("__debug__" : Str)) = false := by decide)
    (he : starEach (e :: es) X.env = (false, eval e X.env) :: starEach es X.env := by rfl) (hpl : (backTo pos (starEach es X.env)).any (·.1) = false := by rfl) : PMk X (.Call (.Name x p) (e :: es) [] pos) (tMkO C sp [] t) := by
  obtain ⟨f, fd, g1, g2, g3, g4, g5, g6⟩ := G.ex
  exact pmk_oex g2 g3 g4 g6 (hr.mono hk) g5 .nil hx hg g1 ha hdb he hpl
end
section
variable {K : PySem.W.Frag} {H : Hp} {σ : L2.St}
def spOorI (K : PySem.W.Frag) (C : Addr) : Sp := fun vs H Q _ => ∃ (a : Addr) (n : Int), vs = [.ref a, .int n] ∧ H a = some (exo a C none) ∧ ∀ dx, H dx = none → dx ≠ a → Q .non (upd (upd H dx (exd dx [("number", .int n)])) a (exo a C (some dx)))
theorem x_oor {C : Addr} {i : Nat} {n : Int} {Q : XK} (e : σ[i]? = some (some (.int n))) (g : ∀ d H', Same H H' → Q (.ref C) (some d) H') : tMkO C (spOorI K C) [] (tCons (tVar i) tNil) σ H Q := by
  refine ⟨.int n, e, ?_⟩
  show ([V.int n] : List V).length ≤ 1000 ∧ _
  refine ⟨by show 1 ≤ 1000; decide, fun a na => ⟨a, n, rfl, upd_same, fun dx ndx ne => ?_⟩⟩
  have n1 : H dx = none := by
    rw [upd_ne ne] at ndx
    exact ndx
  refine ⟨rfl, dx, [("number", .int n)], upd_same, by rw [upd_ne ne]; exact upd_same, n1, g _ _ fun b o z => ?_⟩
  have nb1 : b ≠ dx := ne_of_none z n1
  have nb2 : b ≠ a := ne_of_none z na
  rw [upd_ne nb1, del_ne nb2, upd_ne nb2, upd_ne nb1, upd_ne nb2]
  exact z
end
end Fl
set_option Elab.async false
set_option linter.all false
set_option maxRecDepth 100000
set_option maxHeartbeats 4000000
/-! Appending. -/
namespace Fl
open PySem PySem.Spec PyProof.Rows L2
section
variable {K : PySem.W.Frag} {H H0 H1 H2 : Hp} {σ : L2.St} {Q : VK} {p : Addr} {ds : List PyData}
theorem x_bm {T : String} {r : V → List V → Hp → VK → Prop} {to : TE} {t : TA} (h : to σ H fun x H1 => tyV K T x H1 ∧ t σ H1 fun xs H2 => r x xs H2 Q) : tBM K T r to t σ H Q := h
theorem Lst.ty (l : Lst K H0 p H1 ds) : tyV K "list" (.ref p) H1 := by
  obtain ⟨_, acc, e, _⟩ := l
  exact .inl ⟨rfl, acc, SqL.of e⟩
theorem Lst.ne (l : Lst K H0 p H1 ds) : H1 p ≠ none := by
  obtain ⟨_, acc, e, _⟩ := l
  rw [e]
  intro z
  cases z
/-- what is new since a heap that had p, put into p -/
theorem Lst.new (l : Lst K H0 p H2 ds) {H1 : Hp} (dom : ∀ b, H1 b = none → H0 b = none) (hp : H1 p ≠ none) {v : V} {d : PyData} (h : Dp K (nw H1 H2) v d) (hz : ds.length < 1000) : ∃ acc, H2 p = some (.lst acc) ∧ acc.length < sizeLine ∧ Lst K H0 p (upd H2 p (.lst (acc ++ [v]))) (ds ++ [d]) :=
  l.push ((nw_era dom hp).dps (.cons h .nil) |> fun q => by cases q with | cons a _ => exact a) hz
theorem same_dom {H H' : Hp} (s : L2.Same H H') : ∀ b, H' b = none → H b = none := fun _ q => L2.Same.free s q
theorem x_augV {i : Nat} {te : TE} {ti : TIp} {D : Ends} {x : V} (hv : σ[i]? = some (some x)) (h : te σ H fun y H1 => ti x y H1 fun z H2 => D.nx (σ.set i (some z)) H2) : tAug i te ti D σ H := ⟨x, hv, h⟩
end
end Fl
set_option Elab.async false
set_option linter.all false
set_option maxRecDepth 100000
set_option maxHeartbeats 4000000
/-! Objects under work. -/
namespace Fl
open PySem PySem.Spec PyProof.Rows L2
section
variable {K : PySem.W.Frag} {G H H0 H' H1 H2 : Hp} {v : V} {d : PyData} {D C dx : Addr} {fs fs' : List (Str × V)} {o : HO}
theorem upd_insL {a : Addr} {xs : List V} (hD : H D = some (.ins C dx fs)) (h : SqL K H a xs) : SqL K (upd H D o) a xs := by
  rcases h with (h | ⟨u, h⟩) | h
  · exact .inl (.inl (by rw [upd_ne (ne_of h hD (by intro z; cases z))]; exact h))
  · exact .inl (.inr ⟨u, by rw [upd_ne (ne_of h hD (by intro z; cases z))]; exact h⟩)
  · exact .inr h
theorem upd_insT {a : Addr} {xs : List V} (hD : H D = some (.ins C dx fs)) (h : SqT K H a xs) : SqT K (upd H D o) a xs := by
  rcases h with (h | ⟨u, h⟩) | h
  · exact .inl (.inl (by rw [upd_ne (ne_of h hD (by intro z; cases z))]; exact h))
  · exact .inl (.inr ⟨u, by rw [upd_ne (ne_of h hD (by intro z; cases z))]; exact h⟩)
  · exact .inr h
mutual
theorem dp_ins (hD : H D = some (.ins C dx fs)) : ∀ (d : PyData) (v : V), Dp K H v d → Dp K (upd H D o) v d
  | .none, _, h => by cases h; exact .non
  | .bool b, _, h => by cases h; exact .bl b
  | .int i, _, h => by cases h; exact .int i
  | .str x, _, h => by cases h; exact .str x
  | .list ds, _, h => by
    cases h with
    | lst hs ha => exact .lst (upd_insL hD hs) (dps_ins hD ds _ ha)
  | .tuple ds, _, h => by
    cases h with
    | tup hs ha => exact .tup (upd_insT hD hs) (dps_ins hD ds _ ha)
  | .dict _, _, h => by cases h
theorem dps_ins (hD : H D = some (.ins C dx fs)) : ∀ (ds : List PyData) (vs : List V), DpAll K H vs ds → DpAll K (upd H D o) vs ds
  | [], _, h => by cases h; exact .nil
  | d :: ds, _, h => by
    cases h with
    | cons h1 h2 => exact .cons (dp_ins hD d _ h1) (dps_ins hD ds _ h2)
end
/-- an object of the class at C under work at x, begun after H0 -/
def Own (H0 : Hp) (x dx C : Addr) (H : Hp) (fs : List (Str × V)) : Prop := H0 x = none ∧ Same H0 H ∧ H x = some (.ins C dx fs)
theorem Own.keep {x : Addr} (w : Own H0 x dx C H fs) (s : Same H H') : Own H0 x dx C H' fs := ⟨w.1, w.2.1.trans s, s _ _ w.2.2⟩
theorem Own.start {x : Addr} (nx : H0 x = none) (nd : H0 dx = none) : Own H0 x dx C (upd (upd H0 dx (.own x)) x (.ins C dx [])) [] := ⟨nx, same_new (same_upd nd) nx, upd_same⟩
theorem ext_upd {x : Addr} (n : H0 x = none) : ext G H0 (upd H x o) = upd (ext G H0 H) x o := by
  funext b
  by_cases e : b = x
  · subst e
    rw [ext_new n, upd_same, upd_same]
  · rw [upd_ne e]
    cases q : H0 b with
    | none => rw [ext_new q, ext_new q, upd_ne e]
    | some u => rw [ext_old q, ext_old q]
theorem x_fst {σ : L2.St} {E : Ends} {x : Addr} {f : Str} {y : V} (w : Own H0 x dx C H fs) (c : Cls K C) (n : NoAttr K C f) (l : fs.length < 1000) (e : putF f y fs = fs')
    (q : ∀ H', Own H0 x dx C H' fs' → (∀ G v d, Dp K (ext G H0 H) v d → Dp K (ext G H0 H') v d) → (∀ v d, Dp K H v d → Dp K H' v d) → (∀ b o, b ≠ x → H b = some o → H' b = some o) → E.nx σ H') :
    ∃ a C dx fs, V.ref x = .ref a ∧ H a = some (.ins C dx fs) ∧ Cls K C ∧ NoAttr K C f ∧ fs.length < 1000 ∧ E.nx σ (upd H a (.ins C dx (putF f y fs))) := by
  refine ⟨x, C, dx, fs, rfl, w.2.2, c, n, l, q _ ⟨w.1, same_new w.2.1 w.1, by rw [upd_same, e]⟩ (fun G v d h => ?_) (fun v d h => dp_ins w.2.2 _ _ h) fun b o nb h => ?_⟩
  · rw [ext_upd w.1]
    exact dp_ins (by rw [ext_new w.1]; exact w.2.2) _ _ h
  · rw [upd_ne nb]
    exact h
theorem vals_app {vs vs' : List V} {us us' : List Value} : Vals vs us → Vals vs' us' → Vals (vs ++ vs') (us ++ us')
  | .nil, h => h
  | .cons r t, h => .cons r (vals_app t h)
theorem vals_take {vs : List V} {us : List Value} (n : Nat) : Vals vs us → Vals (vs.take n) (us.take n) := fun h => by
  induction h generalizing n with
  | nil => rw [List.take_nil, List.take_nil]; exact .nil
  | cons r t ih =>
    cases n with
    | zero => exact .nil
    | succ n => exact .cons r (ih n)
theorem vals_drop {vs : List V} {us : List Value} (n : Nat) : Vals vs us → Vals (vs.drop n) (us.drop n) := fun h => by
  induction h generalizing n with
  | nil => rw [List.drop_nil, List.drop_nil]; exact .nil
  | cons r t ih =>
    cases n with
    | zero => exact .cons r t
    | succ n => exact ih n
end
end Fl
set_option Elab.async false
set_option linter.all false
set_option maxRecDepth 100000
set_option maxHeartbeats 4000000
/-! The deck: what a draw leaves. -/
namespace Fl
open PySem PySem.Spec PyProof.Rows L2
section
variable {K : PySem.W.Frag} {G H H0 H' H1 H2 H3 : Hp} {d p : Addr} {ds : List PyData} {v : V} {dt : PyData}
/-- all but the deck stands -/
def Stp (d : Addr) (H H' : Hp) : Prop := (∀ b o, b ≠ d → H b = some o → H' b = some o) ∧ H d ≠ none ∧ H' d ≠ none
/-- the deck's list, its copy of the script -/
structure Dk where
  d : Addr
  sc : Addr
  ns : List Int
def DeckAt (H : Hp) (D : Dk) : Prop := ∃ i c s : Int, H D.d = some (.lst [.ref D.sc, .int i, .int c, .int s]) ∧ H D.sc = some (.lst (D.ns.map V.int)) ∧ D.sc ≠ D.d ∧ 0 ≤ i
theorem DeckAt.ne {D : Dk} (h : DeckAt H D) : H D.d ≠ none := by
  obtain ⟨_, _, _, e, _⟩ := h
  rw [e]
  intro z
  cases z
theorem DeckAt.same {D : Dk} (s : Same H H') (h : DeckAt H D) : DeckAt H' D := by
  obtain ⟨i, c, t, h1, h2, h3, h4⟩ := h
  exact ⟨i, c, t, s _ _ h1, s _ _ h2, h3, h4⟩
theorem DeckAt.app {D : Dk} {o : HO} (h : DeckAt H1 D) (h0 : DeckAt H0 D) (n : H0 p = none) : DeckAt (upd H1 p o) D := by
  obtain ⟨i, c, t, h1, h2, h3, h4⟩ := h
  obtain ⟨_, _, _, k1, k2, _, _⟩ := h0
  exact ⟨i, c, t, by rw [upd_ne (ne_of_none k1 n)]; exact h1, by rw [upd_ne (ne_of_none k2 n)]; exact h2, h3, h4⟩
theorem Stp.refl (h : H d ≠ none) : Stp d H H := ⟨fun _ _ _ e => e, h, h⟩
theorem Stp.trans (a : Stp d H H1) (b : Stp d H1 H2) : Stp d H H2 := ⟨fun x o n e => b.1 x o n (a.1 x o n e), a.2.1, b.2.2⟩
theorem Stp.of (s : Same H H') (h : H d ≠ none) : Stp d H H' := ⟨fun b o _ e => s b o e, h, fun z => h (Same.free s z)⟩
theorem Stp.dom (s : Stp d H H') : ∀ b, H' b = none → H b = none := fun b n => by
  by_cases e : b = d
  · rw [e] at n
    exact absurd n s.2.2
  · cases q : H b with
    | none => rfl
    | some o =>
      rw [s.1 b o e q] at n
      cases n
theorem Stp.era (s : Stp d H H') : Same (era d H) (era d H') := fun b o e => by
  by_cases h : b = d
  · rw [show Fl.era d H b = none from if_pos h] at e
    cases e
  · rw [era_ne h] at e
    exact era_of h (s.1 b o h e)
theorem Stp.nw (s : Stp d H1 H2) (h : H d ≠ none) : Same (nw H H1) (nw H H2) := fun b o e => by
  cases q : H b with
  | none =>
    rw [nw_new q] at e ⊢
    exact s.1 b o (fun z => h (by rw [← z]; exact q)) e
  | some u =>
    rw [nw_old q] at e
    cases e
theorem Stp.back (s : Stp d H0 H1) : Same (Fl.nw H1 H2) (Fl.nw H0 H2) := nw_back s.dom
/-- data that is new since H, when H had the deck: apart from the deck -/
theorem nw_deck (h : H d ≠ none) : Same (nw H H') (era d H') := fun b o e => by
  cases q : H b with
  | none =>
    rw [nw_new q] at e
    exact era_of (fun z => h (by rw [← z]; exact q)) e
  | some u =>
    rw [nw_old q] at e
    cases e
theorem Lst.keepS (l : Lst K H0 p H1 ds) (s : Stp d H1 H2) (h : H0 d ≠ none) : Lst K H0 p H2 ds := by
  obtain ⟨n, acc, e, hd⟩ := l
  exact ⟨n, acc, s.1 _ _ (fun z => h (by rw [← z]; exact n)) e, (era_mono (s.nw h)).dps hd⟩
/-- an append to a list begun after the deck -/
theorem Stp.app {o : HO} (s : Stp d H0 H1) (n : H0 p = none) : Stp d H0 (upd H1 p o) := ⟨fun b u nb e => by
  rw [upd_ne (ne_of_none e n)]
  exact s.1 b u nb e, s.2.1, fun z => by
    by_cases e : d = p
    · rw [e] at s
      exact s.2.1 n
    · rw [upd_ne e] at z
      exact s.2.2 z⟩
end
/-- gives data of x; the deck moves -/
def DGives {α : Type} (K : PySem.W.Frag) (D : Dk) (H : Hp) (Q : VK) (C : α → Prop) (F : α → PyData) : Prop := ∀ x v H', C x → Stp D.d H H' → DeckAt H' D → Dp K (nw H H') v (F x) → Q v H'
theorem x_set {H : Hp} {p : Addr} {xs : List V} {k : Int} {j : Nat} {v : V} {Q : Hp → Prop} (h : H p = some (.lst xs)) (e : ixN xs.length k = some j) (q : Q (upd H p (.lst (xs.set j v)))) : rSetL (.ref p) (.int k) v H Q := ⟨p, xs, k, j, rfl, rfl, h, e, q⟩
end Fl
set_option Elab.async false
set_option linter.all false
set_option maxRecDepth 100000
set_option maxHeartbeats 4000000
/-! Walks while the deck moves. -/
namespace Fl
open PySem PySem.Spec PyProof.Rows L2
structure WalkS (d : Addr) (J : It) (H0 : Hp) (n : Nat) (Y : Nat → V → Prop) : Prop where
  go : ∀ H i, Stp d H0 H → i < n → J.go i H
  yld : ∀ H i x H', Stp d H0 H → i < n → J.yld i H x H' → H' = H ∧ Y i x
  stop : ∀ H, Stp d H0 H → J.stop n H
section
variable {K : PySem.W.Frag} {H0 H H1 : Hp} {a d : Addr} {xs : List V}
theorem sql_stp {H' : Hp} (s : Stp d H H') (h : SqL K (era d H) a xs) : SqL K H' a xs := (era_sub (D := d)).seq (s.era.seq h)
theorem walkS_list (h : SqL K (era d H0) a xs) : WalkS d (Itl K a) H0 xs.length fun i x => xs[i]? = some x where
  go := fun H i s l => by
    obtain ⟨x, e⟩ := getI l
    exact ⟨xs, x, sql_stp s h, e⟩
  yld := fun H i x H' s l y => by
    obtain ⟨rfl, y2⟩ := y
    exact ⟨rfl, y2 _ (sql_stp s h)⟩
  stop := fun H s => ⟨xs, sql_stp s h, Nat.le_refl _⟩
theorem walkS_rng {n : Nat} : WalkS d (Itr 0 n) H0 n fun i x => x = .int i where
  go := fun H i s l => l
  yld := fun H i x H' s l y => by
    obtain ⟨rfl, rfl⟩ := y
    exact ⟨rfl, by rw [Int.zero_add]⟩
  stop := fun H s => Nat.le_refl _
end
section
variable {σ : L2.St} {K : PySem.W.Frag} {g : TG} {te : TE} {vs : List Nat} {J : It} {H1 : Hp} {QL : Hp → Prop} {D : Dk}
/-- a comprehension whose items are drawn -/
theorem lc_draw {α : Type} {n : Nat} {Y : Nat → V → Prop} {L : Addr} (F : α → PyData) (C : α → Prop) (W : WalkS D.d J H1 n Y) (hn : n ≤ 1000) (nL : H1 L = none) (hd : DeckAt H1 D)
    (st : ∀ i x H2, i < n → Stp D.d H1 H2 → DeckAt H2 D → Y i x → ∀ P : VK, (∀ v H5 a, Stp D.d H2 H5 → DeckAt H5 D → C a → Dp K (nw H2 H5) v (F a) → P v H5) → g x (wipe σ vs) H2 fun σ2 H4 => wipe σ2 vs = wipe σ vs ∧ te σ2 H4 P)
    (en : ∀ H2 acc (as : List α), Stp D.d H1 H2 → DeckAt H2 D → as.length = n → (∀ a ∈ as, C a) → H2 L = some (.lst acc) → DpAll K (era L (nw H1 H2)) acc (as.map F) → QL H2) :
    ∃ W : Nat → Nat → Hp → Prop, (∃ m, W 0 m (upd H1 L (.lst []))) ∧ ∀ i m H, W i m H →
      (J.stop i H ∧ QL H) ∨ (J.go i H ∧ ∃ Nx : Hp → Prop, (∀ H', Nx H' → ∃ m', m' < m ∧ W (i + 1) m' H') ∧ ∀ x H', J.yld i H x H' → g x (wipe σ vs) H' fun σ2 H2 => wipe σ2 vs = wipe σ vs ∧ tYes σ2 H2 fun b H3 =>
        if b = true then te σ2 H3 fun y H4 => ∃ acc, H4 L = some (.lst acc) ∧ acc.length < sizeLine ∧ Nx (upd H4 L (.lst (acc ++ [y]))) else Nx H3) := by
  have Ld : L ≠ D.d := fun z => hd.ne (by rw [← z]; exact nL)
  refine lc_at n (fun i acc H2 => Stp D.d H1 H2 ∧ DeckAt H2 D ∧ ∃ as : List α, as.length = i ∧ (∀ a ∈ as, C a) ∧ DpAll K (era L (nw H1 H2)) acc (as.map F)) hn
    ⟨(Stp.refl hd.ne).app nL, hd.app hd nL, [], rfl, fun a h => (by cases h), .nil⟩ (fun i acc H2 lt la hL f => ⟨W.go _ _ f.1 lt, fun x H3 y P cl => ?_⟩) (fun acc H2 la hL f => ⟨W.stop _ f.1, ?_⟩)
  · obtain ⟨f1, f2, as, f3, f4, f5⟩ := f
    obtain ⟨rfl, y2⟩ := W.yld _ _ _ _ f1 lt y
    refine st i x H3 lt f1 f2 y2 P fun v H5 a k1 k2 k3 k4 => ?_
    have hL5 : H5 L = some (.lst acc) := k1.1 _ _ Ld hL
    refine cl v H5 hL5 ⟨(f1.trans k1).app nL, k2.app hd nL, as ++ [a], by rw [List.length_append, f3]; rfl, fun z hz => ?_, ?_⟩
    · rcases List.mem_append.mp hz with hz | hz
      · exact f4 z hz
      · rw [List.mem_singleton.mp hz]
        exact k3
    · rw [nw_upd nL, List.map_append]
      refine dps_snoc ((nw_era f1.dom (by rw [hL]; intro z; cases z)).dp k4) ((era_mono (k1.nw hd.ne)).dps f5)
  · obtain ⟨f1, f2, as, f3, f4, f5⟩ := f
    exact en _ _ as f1 f2 f3 f4 hL f5
end
section
variable {K : PySem.W.Frag} {H0 H1 H2 : Hp} {p : Addr} {D : Dk}
theorem lst_dp {acc : List V} {ds : List PyData} (n : H0 p = none) (e : H1 p = some (.lst acc)) (h : DpAll K (era p (nw H0 H1)) acc ds) : Dp K (nw H0 H1) (.ref p) (.list ds) :=
  .lst (SqL.of (by rw [nw_new n]; exact e)) (era_sub.dps h)
theorem three_ix {a b c r : Int} {C : Int → Prop} (r0 : 0 ≤ r) (r1 : r < 3) (ha : C a) (hb : C b) (hc : C c) : ∃ x, atI [V.int a, .int b, .int c] r = some (.int x) ∧ C x := by
  have h : r = 0 ∨ r = 1 ∨ r = 2 := by omega
  rcases h with rfl | rfl | rfl
  · exact ⟨a, rfl, ha⟩
  · exact ⟨b, rfl, hb⟩
  · exact ⟨c, rfl, hc⟩
theorem tup_nw {n : H0 p = none} {xs : List V} (e : H1 p = some (.tup xs)) : SqT K (nw H0 H1) p xs := SqT.of (by rw [nw_new n]; exact e)
end
end Fl
set_option Elab.async false
set_option linter.all false
set_option maxRecDepth 100000
set_option maxHeartbeats 4000000
/-! Caught calls; regions drawn; what was made. -/
namespace Fl
open PySem PySem.Spec PyProof.Rows L2
section
variable {X : Cx} {CX : CXT} {k j : Nat} {ps : List Str} {sp : Sp} {E : L2.St → XK} {x : Str} {p pos : Pos} {e : Expr} {es : List Expr} {t : TA}
theorem pe_kcS (G : Kept X.prog X.w X.K X.mg X.base CX k x ps [] sp) (hk : k ≤ j) (hr : Room j X.A) (hg : Gl X x) (hx : ∀ σ, PassesAt CX X σ (E σ)) (ha : PA X (e :: es) t) (hdb : (x == ("__debug__" : Str)) = false := by decide)
    (he : starEach (e :: es) X.env = (false, eval e X.env) :: starEach es X.env := by rfl) (hpl : (backTo pos (starEach es X.env)).any (·.1) = false := by rfl) : PE X (.Call (.Name x p) (e :: es) [] pos) (tCallS sp E t) := by
  obtain ⟨f, fd, ds, g1, g2, g3, g4, g5⟩ := G.ex
  cases g4
  exact pe_callS g5 (hr.mono hk) hg g1 g2 g3 hx ha hdb he hpl
theorem passF : Passes (L2.CX X.prog X.w) X (fun _ _ _ => False) := fun _ _ _ _ _ _ _ c => by
  obtain ⟨_, _, _, _, _, _, _, _, _, _, _, _, h⟩ := c
  exact h.elim
end
section
variable {K : PySem.W.Frag} {H H' H1 H2 : Hp} {D : Dk}
/-- a region's list at a -/
def RegAt (K : PySem.W.Frag) (H : Hp) (a : Addr) (reg : List (Int × Int × Int)) : Prop := ∃ tvs, H a = some (.lst tvs) ∧ DpAll K H tvs (reg.map t3D)
theorem flat_t3 (t : Int × Int × Int) : flat (t3D t) = true := rfl
theorem RegAt.upd {a L : Addr} {reg : List (Int × Int × Int)} {ys : List V} {o : HO} (h : RegAt K H a reg) (ne : a ≠ L) (hL : H L = some (.lst ys)) : RegAt K (upd H L o) a reg := by
  obtain ⟨tvs, h1, h2⟩ := h
  exact ⟨tvs, by rw [upd_ne ne]; exact h1, dps_flat hL _ _ (flats_map flat_t3 _) h2⟩
theorem era_tup {d a : Addr} {ys xs : List V} (hD : H d = some (.lst ys)) (h : SqT K H a xs) : SqT K (era d H) a xs := by
  rcases h with (h | ⟨u, h⟩) | h
  · exact .inl (.inl (era_of (ne_of h hD (by intro z; cases z)) h))
  · exact .inl (.inr ⟨u, era_of (ne_of h hD (by intro z; cases z)) h⟩)
  · exact .inr h
mutual
theorem dp_era {d : Addr} {ys : List V} (hD : H d = some (.lst ys)) : ∀ (x : PyData) (v : V), flat x = true → Dp K H v x → Dp K (era d H) v x
  | .none, _, _, h => by cases h; exact .non
  | .bool b, _, _, h => by cases h; exact .bl b
  | .int i, _, _, h => by cases h; exact .int i
  | .str x, _, _, h => by cases h; exact .str x
  | .list ds, _, f, _ => by cases f
  | .tuple ds, _, f, h => by
    cases h with
    | tup hs ha => exact .tup (era_tup hD hs) (dps_era hD ds _ f ha)
  | .dict _, _, _, h => by cases h
theorem dps_era {d : Addr} {ys : List V} (hD : H d = some (.lst ys)) : ∀ (ds : List PyData) (vs : List V), flats ds = true → DpAll K H vs ds → DpAll K (era d H) vs ds
  | [], _, _, h => by cases h; exact .nil
  | d :: ds, _, f, h => by
    obtain ⟨f1, f2⟩ := Bool.and_eq_true_iff.mp (show (flat d && flats ds) = true from f)
    cases h with
    | cons h1 h2 => exact .cons (dp_era hD d _ f1 h1) (dps_era hD ds _ f2 h2)
end
theorem Stp.out {d : Addr} (s : Stp d H H') : Same (Fl.era d H) H' := fun b o e => by
  by_cases hb : b = d
  · rw [show Fl.era d H b = none from if_pos hb] at e
    cases e
  · rw [era_ne hb] at e
    exact s.1 b o hb e
theorem DeckAt.lst (h : DeckAt H D) : ∃ ys, H D.d = some (.lst ys) := by
  obtain ⟨i, c, s, h1, _⟩ := h
  exact ⟨_, h1⟩
theorem RegAt.stp {a : Addr} {reg : List (Int × Int × Int)} (h : RegAt K H a reg) (ne : a ≠ D.d) (hd : DeckAt H D) (s : Stp D.d H H') : RegAt K H' a reg := by
  obtain ⟨tvs, h1, h2⟩ := h
  obtain ⟨ys, hy⟩ := hd.lst
  exact ⟨tvs, s.1 _ _ ne h1, s.out.dps (dps_era hy _ _ (flats_map flat_t3 _) h2)⟩
theorem RegAt.same {a : Addr} {reg : List (Int × Int × Int)} (h : RegAt K H a reg) (s : Same H H') : RegAt K H' a reg := by
  obtain ⟨tvs, h1, h2⟩ := h
  exact ⟨tvs, s _ _ h1, s.dps h2⟩
theorem pair_all {α β : Type} {F F' : α → β → Prop} : ∀ {l : List α} {m : List β}, (∀ a ∈ l, ∀ b, F a b → F' a b) → Paired F l m → Paired F' l m
  | _, _, _, .nil => .nil
  | _, _, h, .cons r t => .cons (h _ (List.mem_cons_self ..) _ r) (pair_all (fun a m => h a (List.mem_cons_of_mem _ m)) t)
end
section
variable {σ : L2.St} {K : PySem.W.Frag} {g : TG} {te : TE} {vs : List Nat} {J : It} {H1 : Hp} {QL : Hp → Prop} {D : Dk}
/-- a comprehension of lists of tents, drawn -/
theorem lc_regs {n : Nat} {Y : Nat → V → Prop} {L : Addr} (C : List (Int × Int × Int) → Prop) (W : WalkS D.d J H1 n Y) (hn : n ≤ 1000) (nL : H1 L = none) (hd : DeckAt H1 D)
    (st : ∀ i x H2, i < n → Stp D.d H1 H2 → DeckAt H2 D → Y i x → ∀ P : VK, (∀ a H5 reg, Stp D.d H2 H5 → DeckAt H5 D → C reg → H2 a = none → RegAt K H5 a reg → P (.ref a) H5) → g x (wipe σ vs) H2 fun σ2 H4 => wipe σ2 vs = wipe σ vs ∧ te σ2 H4 P)
    (en : ∀ H2 (rs : List Addr) (regs : List (List (Int × Int × Int))), Stp D.d H1 H2 → DeckAt H2 D → regs.length = n → (∀ r ∈ regs, C r) → H2 L = some (.lst (rs.map V.ref)) → rs.Nodup → (∀ r ∈ rs, H1 r = none ∧ r ≠ L ∧ H2 r ≠ none) → Paired (RegAt K H2) rs regs → QL H2) :
    ∃ W : Nat → Nat → Hp → Prop, (∃ m, W 0 m (upd H1 L (.lst []))) ∧ ∀ i m H, W i m H →
      (J.stop i H ∧ QL H) ∨ (J.go i H ∧ ∃ Nx : Hp → Prop, (∀ H', Nx H' → ∃ m', m' < m ∧ W (i + 1) m' H') ∧ ∀ x H', J.yld i H x H' → g x (wipe σ vs) H' fun σ2 H2 => wipe σ2 vs = wipe σ vs ∧ tYes σ2 H2 fun b H3 =>
        if b = true then te σ2 H3 fun y H4 => ∃ acc, H4 L = some (.lst acc) ∧ acc.length < sizeLine ∧ Nx (upd H4 L (.lst (acc ++ [y]))) else Nx H3) := by
  have Ld : L ≠ D.d := fun z => hd.ne (by rw [← z]; exact nL)
  refine lc_at n (fun i acc H2 => Stp D.d H1 H2 ∧ DeckAt H2 D ∧ ∃ (rs : List Addr) (regs : List (List (Int × Int × Int))), acc = rs.map V.ref ∧ regs.length = i ∧ (∀ r ∈ regs, C r) ∧ rs.Nodup ∧ (∀ r ∈ rs, H1 r = none ∧ r ≠ L ∧ H2 r ≠ none) ∧ Paired (RegAt K H2) rs regs) hn
    ⟨(Stp.refl hd.ne).app nL, hd.app hd nL, [], [], rfl, rfl, fun a h => (by cases h), List.nodup_nil, fun a h => (by cases h), .nil⟩ (fun i acc H2 lt la hL f => ⟨W.go _ _ f.1 lt, fun x H3 y P cl => ?_⟩) (fun acc H2 la hL f => ⟨W.stop _ f.1, ?_⟩)
  · obtain ⟨f1, f2, rs, regs, rfl, f4, f5, f6, f7, f8⟩ := f
    obtain ⟨rfl, y2⟩ := W.yld _ _ _ _ f1 lt y
    refine st i x H3 lt f1 f2 y2 P fun a H5 reg k1 k2 k3 k4 k5 => ?_
    have hL5 : H5 L = some (.lst (rs.map V.ref)) := k1.1 _ _ Ld hL
    have aL : a ≠ L := fun z => by rw [z, hL] at k4; cases k4
    have h1a : H1 a = none := f1.dom _ k4
    have rd : ∀ r ∈ rs, r ≠ D.d := fun r m z => hd.ne (by rw [← z]; exact (f7 r m).1)
    have h5a : H5 a ≠ none := by
      obtain ⟨_, e, _⟩ := k5
      rw [e]
      intro z
      cases z
    refine cl (.ref a) H5 hL5 ⟨(f1.trans k1).app nL, k2.app hd nL, rs ++ [a], regs ++ [reg], by rw [List.map_append]; rfl, by rw [List.length_append, f4]; rfl, fun z hz => ?_, ?_, fun r hr => ?_, ?_⟩
    · rcases List.mem_append.mp hz with hz | hz
      · exact f5 z hz
      · rw [List.mem_singleton.mp hz]
        exact k3
    · refine List.nodup_append.mpr ⟨f6, by simp, fun x hx y hy z => ?_⟩
      rw [List.mem_singleton.mp hy] at z
      exact (f7 x hx).2.2 (by rw [z]; exact k4)
    · rcases List.mem_append.mp hr with hr | hr
      · refine ⟨(f7 r hr).1, (f7 r hr).2.1, ?_⟩
        rw [upd_ne (f7 r hr).2.1]
        cases q : H3 r with
        | none => exact absurd q (f7 r hr).2.2
        | some o =>
          rw [k1.1 _ _ (rd r hr) q]
          intro z
          cases z
      · rw [List.mem_singleton.mp hr]
        exact ⟨h1a, aL, by rw [upd_ne aL]; exact h5a⟩
    · refine pair_snoc (k5.upd aL hL5) (pair_all (fun r hr reg q => ?_) f8)
      exact (q.stp (rd r hr) f2 k1).upd (f7 r hr).2.1 hL5
  · obtain ⟨f1, f2, rs, regs, rfl, f4, f5, f6, f7, f8⟩ := f
    exact en _ rs regs f1 f2 f4 f5 hL f6 f7 f8
end
end Fl
set_option Elab.async false
set_option linter.all false
set_option maxRecDepth 100000
set_option maxHeartbeats 4000000
/-! The law's own small facts. -/
namespace Fl
open PySem PySem.Spec PyProof.Rows L2
/-! data whose lists hold no ints stand apart from the deck -/
def noInt : PyData → Bool
  | .int _ => false
  | _ => true
mutual
def okL : PyData → Bool
  | .list ds => okLs ds && ds.all noInt
  | .tuple ds => okLs ds
  | _ => true
def okLs : List PyData → Bool
  | [] => true
  | d :: ds => okL d && okLs ds
end
section
variable {K : PySem.W.Frag} {H H' : Hp} {D : Dk}
theorem sql_out (hd : DeckAt H D) {a : Addr} {xs : List V} (h : SqL K H a xs) (n : ∀ i, xs[1]? ≠ some (V.int i)) : SqL K (era D.d H) a xs := by
  obtain ⟨i, c, s, h1, _⟩ := hd
  rcases h with (h | ⟨u, h⟩) | h
  · refine .inl (.inl (era_of (fun z => ?_) h))
    rw [z, h1] at h
    cases h
    exact n i rfl
  · refine .inl (.inr ⟨u, era_of (fun z => ?_) h⟩)
    rw [z, h1] at h
    cases h
  · exact .inr h
theorem sqt_out (hd : DeckAt H D) {a : Addr} {xs : List V} (h : SqT K H a xs) : SqT K (era D.d H) a xs := by
  obtain ⟨ys, hy⟩ := hd.lst
  exact era_tup hy h
theorem no_int {vs : List V} {ds : List PyData} (h : DpAll K H vs ds) (n : ds.all noInt = true) (i : Int) : vs[1]? ≠ some (V.int i) := fun e => by
  obtain ⟨d, e1, e2⟩ := dps_get h e
  cases e2
  have := List.all_eq_true.mp n _ (List.mem_of_getElem? e1)
  cases this
mutual
theorem dp_out' (hd : DeckAt H D) : ∀ (x : PyData) (v : V), okL x = true → Dp K H v x → Dp K (era D.d H) v x
  | .none, _, _, h => by cases h; exact .non
  | .bool b, _, _, h => by cases h; exact .bl b
  | .int i, _, _, h => by cases h; exact .int i
  | .str x, _, _, h => by cases h; exact .str x
  | .list ds, _, f, h => by
    obtain ⟨f1, f2⟩ := Bool.and_eq_true_iff.mp (show (okLs ds && ds.all noInt) = true by simpa [okL] using f)
    cases h with
    | lst hs ha => exact .lst (sql_out hd hs (no_int ha f2)) (dps_out' hd ds _ f1 ha)
  | .tuple ds, _, f, h => by
    cases h with
    | tup hs ha => exact .tup (sqt_out hd hs) (dps_out' hd ds _ (by simpa [okL] using f) ha)
  | .dict _, _, _, h => by cases h
theorem dps_out' (hd : DeckAt H D) : ∀ (ds : List PyData) (vs : List V), okLs ds = true → DpAll K H vs ds → DpAll K (era D.d H) vs ds
  | [], _, _, h => by cases h; exact .nil
  | d :: ds, _, f, h => by
    obtain ⟨f1, f2⟩ := Bool.and_eq_true_iff.mp (show (okL d && okLs ds) = true by simpa [okLs] using f)
    cases h with
    | cons h1 h2 => exact .cons (dp_out' hd d _ f1 h1) (dps_out' hd ds _ f2 h2)
end
theorem okLs_map {α : Type} {f : α → PyData} (h : ∀ x, okL (f x) = true) : ∀ l : List α, okLs (l.map f) = true
  | [] => by simp [okLs]
  | x :: l => by
    rw [List.map_cons, okLs, h x, okLs_map h l]
    rfl
theorem okL_list {α : Type} {f : α → PyData} (h : ∀ x, okL (f x) = true) (n : ∀ x, noInt (f x) = true) (l : List α) : okL (.list (l.map f)) = true := by
  rw [okL, okLs_map h l, List.all_map, Bool.true_and, List.all_eq_true]
  exact fun x _ => n x
theorem okL_pt (p : Pt) : okL (ptD p) = true := by simp [ptD, okL, okLs]
theorem okL_t3 (t : Ax) : okL (t3D t) = true := by simp [t3D, okL, okLs]
theorem okL_t4 (t : Dl) : okL (t4D t) = true := by simp [t4D, okL, okLs]
theorem okL_con (c : List Pt) : okL (conD c) = true := okL_list okL_pt (fun _ => rfl) c
theorem okL_out (o : Outl) : okL (outD o) = true := okL_list okL_con (fun _ => rfl) o
theorem okL_reg (r : List Ax) : okL (regD r) = true := okL_list okL_t3 (fun _ => rfl) r
theorem okL_nil : okL (.list []) = true := by simp [okL, okLs]
theorem GlyphAt.out {v : V} {g : Gd} (hd : DeckAt H D) (h : GlyphAt K H v g) : GlyphAt K (era D.d H) v g := by
  obtain ⟨a, dx, vo, vp, va, vd, vh, rfl, h0, h1, h2, h3, h4, h5⟩ := h
  obtain ⟨ys, hy⟩ := hd.lst
  exact ⟨a, dx, vo, vp, va, vd, vh, rfl, era_of (ne_of h0 hy (by intro z; cases z)) h0, dp_out' hd _ _ (okL_out _) h1, dp_out' hd _ _ okL_nil h2, dp_out' hd _ _ okL_nil h3, dp_out' hd _ _ (okL_list okL_t4 (fun _ => rfl) _) h4, dp_out' hd _ _ okL_nil h5⟩
theorem FontAt.stp {v : V} {f : Fd} (hd : DeckAt H D) (h : FontAt K H v f) (s : Stp D.d H H') : FontAt K H' v f := by
  refine FontAt.same s.out ?_
  obtain ⟨a, dx, gl, gvs, vc, vl, vf, va, vr, vu, vp, rfl, h0, h1, h2, h3, h4, h5, h6, h7, h8, h9⟩ := h
  obtain ⟨ys, hy⟩ := hd.lst
  refine ⟨a, dx, gl, gvs, vc, vl, vf, va, vr, vu, vp, rfl, era_of (ne_of h0 hy (by intro z; cases z)) h0, sql_out hd h1 (fun i e => ?_), pair_mono (fun _ _ => GlyphAt.out hd) h2, dp_out' hd _ _ okL_nil h3, dp_out' hd _ _ okL_nil h4, dp_out' hd _ _ okL_nil h5,
    dp_out' hd _ _ (okL_list okL_t3 (fun _ => rfl) _) h6, dp_out' hd _ _ (okL_list okL_reg (fun _ => rfl) _) h7, dp_out' hd _ _ okL_nil h8, dp_out' hd _ _ okL_nil h9⟩
  obtain ⟨g, _, hg⟩ := pair_at2 h2 e
  obtain ⟨a, _, _, _, _, _, _, z, _⟩ := hg
  cases z
where
  pair_at2 {α β : Type} {F : α → β → Prop} : ∀ {l : List α} {m : List β} {i : Nat} {a : α}, Paired F l m → l[i]? = some a → ∃ b, m[i]? = some b ∧ F a b
    | _, _, _, _, .nil, e => by simp at e
    | _, _, 0, _, .cons r _, e => by simp at e; subst e; exact ⟨_, rfl, r⟩
    | _, _, i + 1, b, .cons _ t, e => by
      obtain ⟨a, h1, h2⟩ := pair_at2 (i := i) (a := b) t (by simpa using e)
      exact ⟨a, by simpa using h1, h2⟩
/-! one of a list put anew -/
theorem pair_upd {α β : Type} {F F' : α → β → Prop} {r : α} {new : β} : ∀ {l : List α} {m : List β} {i : Nat}, Paired F l m → l.Nodup → l[i]? = some r → (∀ a ∈ l, a ≠ r → ∀ b, F a b → F' a b) → F' r new → Paired F' l (m.set i new)
  | _, _, _, .nil, _, e, _, _ => by simp at e
  | _, _, 0, .cons q t, nd, e, k, n => by
    simp at e
    subst e
    rw [List.nodup_cons] at nd
    refine .cons n (pair_all (fun a m b f => k a (List.mem_cons_of_mem _ m) (fun z => ?_) b f) t)
    rw [z] at m
    exact nd.1 m
  | _, _, i + 1, .cons q t, nd, e, k, n => by
    rw [List.nodup_cons] at nd
    simp at e
    refine .cons (k _ (List.mem_cons_self ..) (fun z => ?_) _ q) (pair_upd t nd.2 e (fun a m => k a (List.mem_cons_of_mem _ m)) n)
    rw [z] at nd
    exact nd.1 (List.mem_of_getElem? e)
theorem dps_set {v : V} {d : PyData} (h : Dp K H v d) : ∀ {vs : List V} {ds : List PyData} (j : Nat), DpAll K H vs ds → DpAll K H (vs.set j v) (ds.set j d)
  | _, _, _, .nil => .nil
  | _, _, 0, .cons _ t => .cons h t
  | _, _, j + 1, .cons a t => .cons a (dps_set h j t)
theorem reg_dp {a : Addr} {r : List Ax} (h : RegAt K H a r) : Dp K H (.ref a) (regD r) := by
  obtain ⟨tvs, h1, h2⟩ := h
  exact .lst (SqL.of h1) h2
theorem regs_dp : ∀ {rs : List Addr} {regs : List (List Ax)}, Paired (RegAt K H) rs regs → DpAll K H (rs.map V.ref) (regs.map regD)
  | _, _, .nil => .nil
  | _, _, .cons a t => .cons (reg_dp a) (regs_dp t)
theorem DeckAt.upd {r : Addr} {o : HO} (h : DeckAt H D) (n1 : r ≠ D.d) (n2 : r ≠ D.sc) : DeckAt (upd H r o) D := by
  obtain ⟨i, c, s, h1, h2, h3, h4⟩ := h
  exact ⟨i, c, s, by rw [upd_ne n1.symm]; exact h1, by rw [upd_ne n2.symm]; exact h2, h3, h4⟩
end
/-! the far place -/
def farL (as : List Ax) (pl : List Int) : List Int := List.zipWith farN as pl
theorem shares_far : ∀ (as : List Ax) (pl : List Int), InAx as pl → sharesM (as.map wideA) (farL as pl) = sharesM as pl
  | [], [], _ => rfl
  | [], _ :: _, h => by have := h.len; simp at this
  | _ :: _, [], h => by have := h.len; simp at this
  | a :: as, n :: pl, h => by
    obtain ⟨h1, h2⟩ := h.all 0 a n rfl rfl
    have ih := shares_far as pl ⟨by have := h.len; simpa using this, fun i b m e1 e2 => h.all (i + 1) b m (by simpa using e1) (by simpa using e2)⟩
    show shareM (wideA a) (farN a n) :: sharesM (as.map wideA) (farL as pl) = shareM a n :: sharesM as pl
    rw [share_wide a n h1 h2, ih]
theorem in_far {as : List Ax} {pl : List Int} (h : InAx as pl) : InAx (as.map wideA) (farL as pl) := by
  have hl := h.len
  refine ⟨by unfold farL; rw [List.length_zipWith, List.length_map]; omega, fun i a n e1 e2 => ?_⟩
  rw [List.getElem?_map] at e1
  unfold farL at e2
  rw [List.getElem?_zipWith] at e2
  cases qa : as[i]? with
  | none => rw [qa] at e1; cases e1
  | some b =>
    cases qp : pl[i]? with
    | none => rw [qa, qp] at e2; cases e2
    | some m =>
      rw [qa] at e1
      rw [qa, qp] at e2
      cases e1
      cases e2
      obtain ⟨h1, h2⟩ := h.all i b m qa qp
      unfold wideA farN
      simp only
      omega
theorem in_normal {as : List Ax} (h : ∀ a ∈ as, a.1 ≤ a.2.1 ∧ a.2.1 ≤ a.2.2) : InAx as (as.map fun a => a.2.1) :=
  ⟨List.length_map .., fun i a n e1 e2 => by
    rw [List.getElem?_map, e1] at e2
    cases e2
    exact h a (List.mem_of_getElem? e1)⟩
theorem in_none : InAx [] [] := ⟨rfl, fun i a n e => by simp at e⟩
end Fl
set_option Elab.async false
set_option linter.all false
set_option maxRecDepth 100000
set_option maxHeartbeats 4000000
/-! Fractions: each def hands back the mirror's value. -/
namespace Fl
open PySem PySem.Spec PyProof.Rows L2
local macro_rules | `(tactic| walk_at "fx") => `(tactic| first | assumption | solve_by_elim [seqT, Same.trans, Same.seq])
local macro_rules | `(tactic| walk_at "cl") => `(tactic| first | assumption | exact Txt.c_Glyph (by assumption) | exact Txt.c_Font (by assumption) | exact Txt.c_Moves (by assumption))
local macro_rules | `(tactic| walk_at "na") => `(tactic| first | assumption | exact Txt.a_Glyph_advance (by assumption) | exact Txt.a_Glyph_outline (by assumption) | exact Txt.a_Glyph_parts (by assumption) | exact Txt.a_Glyph_anchors (by assumption) | exact Txt.a_Glyph_mark (by assumption) | exact Txt.a_Glyph_deltas (by assumption) | exact Txt.a_Glyph_hint (by assumption) | exact Txt.a_Font_unit (by assumption) | exact Txt.a_Font_glyphs (by assumption) | exact Txt.a_Font_chars (by assumption) | exact Txt.a_Font_lookups (by assumption) | exact Txt.a_Font_features (by assumption) | exact Txt.a_Font_axes (by assumption) | exact Txt.a_Font_regions (by assumption) | exact Txt.a_Font_functions (by assumption) | exact Txt.a_Font_presets (by assumption) | exact Txt.a_Moves_sums (by assumption))
local macro_rules | `(tactic| walk_at "step") => `(tactic| first
  | (with_reducible refine x_c ?_)
  | ((with_reducible show tVar _ _ _ _); refine ⟨_, rfl, ?_⟩)
  | (with_reducible refine x_op ?_) | (with_reducible refine x_seq ?_) | (with_reducible refine x_nx ?_) | (with_reducible refine x_asg ?_) | (with_reducible refine x_name ?_)
  | ((with_reducible show rI0 _ _ _ _ _); refine ⟨_, _, rfl, rfl, ?_⟩)
  | (with_reducible refine x_ret ?_) | (with_reducible refine x_rt ?_) | (with_reducible refine x_ifS ?_) | (with_reducible refine x_test ?_) | (with_reducible refine x_bl ?_)
  | (with_reducible refine x_cons ?_) | (with_reducible refine x_nil ?_) | (with_reducible refine x_call ?_) | (with_reducible refine x_CB ?_)
  | ((with_reducible refine' x_ixT ?h ?e ?q); (case h => walk_at "fx"); (case e => rfl))
  | ((with_reducible refine' x_ixL ?h ?e ?q); (case h => walk_at "fx"); (case e => rfl))
  | (with_reducible refine x_fld ?_)
  | ((with_reducible refine' x_at ?h ?c ?n ?l ?q); (case h => walk_at "fx"); (case c => walk_at "cl"); (case n => walk_at "na"); (case l => rfl))
  | (with_reducible refine x_un ?_) | ((with_reducible show rU _ _ _ _); refine ⟨_, rfl, ?_⟩)
  | (with_reducible refine x_not ?_) | (with_reducible refine x_and ?_) | (with_reducible refine x_or ?_) | (with_reducible refine x_tB ?_) | (with_reducible refine x_andV ?_) | (with_reducible refine x_notV ?_) | (with_reducible refine x_chain ?_) | (with_reducible refine x_chn ?_) | (with_reducible refine x_link ?_) | (with_reducible refine x_last ?_)
  | ((with_reducible refine x_eq ?s ?_); (case s => rfl)) | ((with_reducible refine x_ne ?s ?_); (case s => rfl))
  | (with_reducible refine x_tup ?_) | (with_reducible refine x_lst ?_) | (with_reducible refine x_disp (Nat.le_of_ble_eq_true rfl) ?_)
  | (with_reducible refine x_retN ?_) | (with_reducible refine x_drop ?_) | (with_reducible refine x_next ?_) | (with_reducible refine x_bk ?_) | (with_reducible refine x_ct ?_) | (with_reducible refine x_sfld ?_)
  | ((with_reducible refine' x_gtup ?h ?e ?q); (case h => walk_at "fx"); (case e => rfl)) | ((with_reducible refine' x_gunl ?h ?e ?q); (case h => walk_at "fx"); (case e => rfl))
  | (with_reducible refine x_gcons ?_) | (with_reducible refine x_gnil ?_) | (with_reducible refine x_gsub ?_)
  | (with_reducible refine x_for ?_) | (with_reducible refine x_lc ?_) | (with_reducible refine x_yes ?_) | (with_reducible refine x_iList ?_) | (with_reducible refine x_iTup ?_) | (with_reducible refine x_iSeq ?_) | (with_reducible refine x_iZip ?_) | (with_reducible refine x_iEnum ?_) | (with_reducible refine x_iRng1 ?_)
  | ((with_reducible refine' x_itL ?h ?q); (case h => walk_at "fx")) | ((with_reducible refine' x_itT ?h ?q); (case h => walk_at "fx")) | ((with_reducible refine' x_itSL ?h ?q); (case h => walk_at "fx")) | ((with_reducible refine' x_itST ?h ?q); (case h => walk_at "fx"))
  | ((with_reducible refine' x_itZ ?h1 ?h2 ?q); (case h1 => walk_at "fx"); (case h2 => walk_at "fx")) | ((with_reducible refine' x_itE ?h ?q); (case h => walk_at "fx"))
  | ((with_reducible refine' x_lenL ?h ?q); (case h => walk_at "fx")) | ((with_reducible refine' x_lenT ?h ?q); (case h => walk_at "fx"))
  | ((with_reducible refine' x_lofL ?h ?q); (case h => walk_at "fx")) | ((with_reducible refine' x_lofT ?h ?q); (case h => walk_at "fx"))
  | (with_reducible refine x_aug ?_) | (with_reducible refine x_ipI ?_) | (with_reducible refine x_meth ?_) | (with_reducible refine x_makeK ?_)
  | (with_reducible refine iteT ?_) | (with_reducible refine iteF ?_) | (with_reducible refine ifNT' ?_) | (with_reducible refine ifNF' ?_))
local macro_rules | `(tactic| walk_at "go") => `(tactic| repeat walk_at "step")
section
variable {P : Program} {w : World} {K : PySem.W.Frag} {mg : Str → Option Value} {base : Heap}
/-! ### ratio -/
abbrev sc_ratioN : List Str := ["p", "q", "shared"]
theorem sc_ratio : FnScope sc_ratioN ["p", "q"] (defScope s_ratio) := ⟨rfl, rfl, rfl, by decide +kernel, rfl, by decide +kernel, by decide +kernel⟩
def spRatio (K : PySem.W.Frag) : Sp := fun vs H Q _ => ∃ p q : Int, vs = [.int p, .int q] ∧ 0 < q ∧ q.natAbs < 2 ^ 8000 ∧ Gives K H Q (pD (rat p q))
theorem ok_ratio (T : Txt K mg) {fd : FuncData} (F : FunD K "ratio" "ratio" (defArgs s_ratio) (defBody s_ratio) (defScope s_ratio) (He.DefD.dvs K d_ratio) (He.DefD.kws K d_ratio) (He.fAd K ("ratio", none)) fd) :
    FnOk P w K mg base CX0 1 (He.ga K "ratio") fd ["p", "q"] (spRatio K) := by
  refine ok0 F sc_ratio (fun vs H Q E h => ?_) (fun cdv A outer s H vs Q E hr h => ?_)
  · obtain ⟨p, q, rfl, _⟩ := h
    rfl
  · obtain ⟨p, q, rfl, hq, hb, g⟩ := h
    refine ⟨_, (pss_cons (ps_if (pt_cmpR op_eq (pv 1) pe_int (nomark _)) (pss_one ps_never) pss_nil)
      (pss_cons (ps_if (pt_cmpR op_lt (pv 1) pe_int (nomark _)) (pss_cons (ps_set (i := 0) sc_ratio.nd rfl (.inl rfl) (pe_un un_neg (pv 0)))
      (pss_one (ps_set (i := 1) sc_ratio.nd rfl (.inl rfl) (pe_un un_neg (pv 1))))) pss_nil)
      (pss_cons (ps_set (i := 2) sc_ratio.nd rfl (.inl rfl) (pe_callBfun cr_gcd (by rfl) (Txt.more T).1 (pa_cons (pv 0) (pa_cons (pv 1) pa_nil))))
      (pss_one (ps_ret (pe_tup (pa_cons (pe_op op_fdivW (pv 0) (pv 2)) (pa_cons (pe_op op_fdivW (pv 1) (pv 2)) pa_nil)))))))), ?_⟩
    walk_at "go"
    refine ifF (fun z => ?_) ?_
    · have := V.int.inj z
      omega
    walk_at "go"
    refine ifF (by omega) ?_
    walk_at "go"
    refine ⟨p, q, rfl, ?_⟩
    have gp := gq_pos (p := p) hq
    have gl : (gq p q).natAbs < 2 ^ 8000 := Nat.lt_of_le_of_lt (by have := gq_le (p := p) hq; omega) hb
    walk_at "go"
    refine ⟨p, gq p q, rfl, rfl, wide_div gp gl (by omega) (by omega), ?_⟩
    walk_at "go"
    refine ⟨q, gq p q, rfl, rfl, wide_div gp gl (by omega) (by omega), ?_⟩
    walk_at "go"
    intro t H1 s1 n1 e1
    walk_at "go"
    exact g _ _ s1 (pair_dp (p := rat p q) (SqT.of e1))
theorem k_ratio (T : Txt K mg) : Kept P w K mg base CX0 1 "ratio" ["p", "q"] [] (spRatio K) := by
  obtain ⟨fd, F⟩ := T.f_ratio
  obtain ⟨ds, hv, hb⟩ := F.binds1 (ps := ["p", "q"]) 2 1 (by intro z; cases z) rfl fun T kV doc pm an cdv ct us its l1 l2 => match us, its, l1, l2 with
    | [_, _], [_], _, _ => ⟨_, rfl, rfl⟩
  exact ⟨_, fd, ds, T.g_ratio, F.kp, hb, hv, ok_ratio T F⟩
theorem k_ratio1 (T : Txt K mg) : Kept P w K mg base CX0 1 "ratio" ["p", "q"] [.int 1] (spRatio K) := by
  obtain ⟨fd, F⟩ := T.f_ratio
  obtain ⟨ds, hv, hb⟩ := F.binds1 (ps := ["p", "q"]) 1 0 (by intro z; cases z) rfl fun T kV doc pm an cdv ct us its l1 l2 => match us, its, l1, l2 with
    | [_], [_], _, _ => ⟨_, rfl, rfl⟩
  exact ⟨_, fd, ds, T.g_ratio, F.kp, hb, hv, ok_ratio T F⟩
/-! ### add, subtract, multiply, divide -/
def spBin (K : PySem.W.Frag) (ok : Rt → Prop) (f : Rt → Rt → Rt) : Sp := fun vs H Q _ => ∃ (va vb : V) (a b : Rt), vs = [va, vb] ∧ Dp K H va (pD a) ∧ Dp K H vb (pD b) ∧ Sz 2000 a ∧ Sz 2000 b ∧ ok b ∧ Gives K H Q (pD (f a b))
theorem small2 {x y : Int} (a : x.natAbs < 2 ^ 2000) (b : y.natAbs < 2 ^ 2000) : (x * y).natAbs < 2 ^ 8000 := lt_more (lt_mul a b) (by omega)
theorem wide2 {x y : Int} (a : x.natAbs < 2 ^ 2000) (b : y.natAbs < 2 ^ 2000) : CMulW x y := wide_mul a b (by omega) (by omega) (by omega)
abbrev sc_addN : List Str := ["a", "b"]
theorem sc_add : FnScope sc_addN ["a", "b"] (defScope s_add) := ⟨rfl, rfl, rfl, by decide +kernel, rfl, by decide +kernel, by decide +kernel⟩
theorem k_add (T : Txt K mg) : Kept P w K mg base CX0 2 "add" ["a", "b"] [] (spBin K (fun _ => True) radd) := by
  obtain ⟨fd, F⟩ := T.f_add
  refine ⟨_, fd, [], T.g_add, F.kp, F.bindsN (ps := ["a", "b"]) (fun _ _ _ _ _ _ us hl => match us, hl with | [_, _], _ => rfl), .nil, ?_⟩
  refine ok0 F sc_add (fun vs H Q E h => ?_) (fun cdv A outer s H vs Q E hr h => ?_)
  · obtain ⟨va, vb, a, b, rfl, _⟩ := h
    rfl
  refine ⟨_, (pss_one (ps_ret (pe_kc (k_ratio T) (by decide) hr (by rfl) pass0 (pa_cons (pe_op op_add (pe_op op_mulW (pe_ix ix_tup (pv 0) pe_int (fun _ _ => rfl)) (pe_ix ix_tup (pv 1) pe_int (fun _ _ => rfl))) (pe_op op_mulW (pe_ix ix_tup (pv 1) pe_int (fun _ _ => rfl)) (pe_ix ix_tup (pv 0) pe_int (fun _ _ => rfl)))) (pa_cons (pe_op op_mulW (pe_ix ix_tup (pv 0) pe_int (fun _ _ => rfl)) (pe_ix ix_tup (pv 1) pe_int (fun _ _ => rfl))) pa_nil))))), ?_⟩
  obtain ⟨va, vb, a, b, rfl, da, db, za, zb, _, g⟩ := h
  obtain ⟨pa, rfl, ha⟩ := dp_pair da
  obtain ⟨pb, rfl, hb⟩ := dp_pair db
  walk_at "go"
  refine ⟨_, _, rfl, rfl, wide2 za.2.1 zb.2.2, ?_⟩
  walk_at "go"
  refine ⟨_, _, rfl, rfl, wide2 zb.2.1 za.2.2, ?_⟩
  walk_at "go"
  refine ⟨_, _, rfl, rfl, wide2 za.2.2 zb.2.2, ?_⟩
  walk_at "go"
  exact ⟨_, _, rfl, Int.mul_pos za.1 zb.1, small2 za.2.2 zb.2.2, g⟩
abbrev sc_subtractN : List Str := ["a", "b"]
theorem sc_subtract : FnScope sc_subtractN ["a", "b"] (defScope s_subtract) := ⟨rfl, rfl, rfl, by decide +kernel, rfl, by decide +kernel, by decide +kernel⟩
theorem k_subtract (T : Txt K mg) : Kept P w K mg base CX0 2 "subtract" ["a", "b"] [] (spBin K (fun _ => True) rsub) := by
  obtain ⟨fd, F⟩ := T.f_subtract
  refine ⟨_, fd, [], T.g_subtract, F.kp, F.bindsN (ps := ["a", "b"]) (fun _ _ _ _ _ _ us hl => match us, hl with | [_, _], _ => rfl), .nil, ?_⟩
  refine ok0 F sc_subtract (fun vs H Q E h => ?_) (fun cdv A outer s H vs Q E hr h => ?_)
  · obtain ⟨va, vb, a, b, rfl, _⟩ := h
    rfl
  refine ⟨_, (pss_one (ps_ret (pe_kc (k_ratio T) (by decide) hr (by rfl) pass0 (pa_cons (pe_op op_sub (pe_op op_mulW (pe_ix ix_tup (pv 0) pe_int (fun _ _ => rfl)) (pe_ix ix_tup (pv 1) pe_int (fun _ _ => rfl))) (pe_op op_mulW (pe_ix ix_tup (pv 1) pe_int (fun _ _ => rfl)) (pe_ix ix_tup (pv 0) pe_int (fun _ _ => rfl)))) (pa_cons (pe_op op_mulW (pe_ix ix_tup (pv 0) pe_int (fun _ _ => rfl)) (pe_ix ix_tup (pv 1) pe_int (fun _ _ => rfl))) pa_nil))))), ?_⟩
  obtain ⟨va, vb, a, b, rfl, da, db, za, zb, _, g⟩ := h
  obtain ⟨pa, rfl, ha⟩ := dp_pair da
  obtain ⟨pb, rfl, hb⟩ := dp_pair db
  walk_at "go"
  refine ⟨_, _, rfl, rfl, wide2 za.2.1 zb.2.2, ?_⟩
  walk_at "go"
  refine ⟨_, _, rfl, rfl, wide2 zb.2.1 za.2.2, ?_⟩
  walk_at "go"
  refine ⟨_, _, rfl, rfl, wide2 za.2.2 zb.2.2, ?_⟩
  walk_at "go"
  exact ⟨_, _, rfl, Int.mul_pos za.1 zb.1, small2 za.2.2 zb.2.2, g⟩
abbrev sc_multiplyN : List Str := ["a", "b"]
theorem sc_multiply : FnScope sc_multiplyN ["a", "b"] (defScope s_multiply) := ⟨rfl, rfl, rfl, by decide +kernel, rfl, by decide +kernel, by decide +kernel⟩
theorem k_multiply (T : Txt K mg) : Kept P w K mg base CX0 2 "multiply" ["a", "b"] [] (spBin K (fun _ => True) rmul) := by
  obtain ⟨fd, F⟩ := T.f_multiply
  refine ⟨_, fd, [], T.g_multiply, F.kp, F.bindsN (ps := ["a", "b"]) (fun _ _ _ _ _ _ us hl => match us, hl with | [_, _], _ => rfl), .nil, ?_⟩
  refine ok0 F sc_multiply (fun vs H Q E h => ?_) (fun cdv A outer s H vs Q E hr h => ?_)
  · obtain ⟨va, vb, a, b, rfl, _⟩ := h
    rfl
  refine ⟨_, (pss_one (ps_ret (pe_kc (k_ratio T) (by decide) hr (by rfl) pass0 (pa_cons (pe_op op_mulW (pe_ix ix_tup (pv 0) pe_int (fun _ _ => rfl)) (pe_ix ix_tup (pv 1) pe_int (fun _ _ => rfl))) (pa_cons (pe_op op_mulW (pe_ix ix_tup (pv 0) pe_int (fun _ _ => rfl)) (pe_ix ix_tup (pv 1) pe_int (fun _ _ => rfl))) pa_nil))))), ?_⟩
  obtain ⟨va, vb, a, b, rfl, da, db, za, zb, _, g⟩ := h
  obtain ⟨pa, rfl, ha⟩ := dp_pair da
  obtain ⟨pb, rfl, hb⟩ := dp_pair db
  walk_at "go"
  refine ⟨_, _, rfl, rfl, wide2 za.2.1 zb.2.1, ?_⟩
  walk_at "go"
  refine ⟨_, _, rfl, rfl, wide2 za.2.2 zb.2.2, ?_⟩
  walk_at "go"
  exact ⟨_, _, rfl, Int.mul_pos za.1 zb.1, small2 za.2.2 zb.2.2, g⟩
abbrev sc_divideN : List Str := ["a", "b"]
theorem sc_divide : FnScope sc_divideN ["a", "b"] (defScope s_divide) := ⟨rfl, rfl, rfl, by decide +kernel, rfl, by decide +kernel, by decide +kernel⟩
theorem k_divide (T : Txt K mg) : Kept P w K mg base CX0 2 "divide" ["a", "b"] [] (spBin K (fun b => 0 < b.1) rdiv) := by
  obtain ⟨fd, F⟩ := T.f_divide
  refine ⟨_, fd, [], T.g_divide, F.kp, F.bindsN (ps := ["a", "b"]) (fun _ _ _ _ _ _ us hl => match us, hl with | [_, _], _ => rfl), .nil, ?_⟩
  refine ok0 F sc_divide (fun vs H Q E h => ?_) (fun cdv A outer s H vs Q E hr h => ?_)
  · obtain ⟨va, vb, a, b, rfl, _⟩ := h
    rfl
  refine ⟨_, (pss_one (ps_ret (pe_kc (k_ratio T) (by decide) hr (by rfl) pass0 (pa_cons (pe_op op_mulW (pe_ix ix_tup (pv 0) pe_int (fun _ _ => rfl)) (pe_ix ix_tup (pv 1) pe_int (fun _ _ => rfl))) (pa_cons (pe_op op_mulW (pe_ix ix_tup (pv 0) pe_int (fun _ _ => rfl)) (pe_ix ix_tup (pv 1) pe_int (fun _ _ => rfl))) pa_nil))))), ?_⟩
  obtain ⟨va, vb, a, b, rfl, da, db, za, zb, hp, g⟩ := h
  obtain ⟨pa, rfl, ha⟩ := dp_pair da
  obtain ⟨pb, rfl, hb⟩ := dp_pair db
  walk_at "go"
  refine ⟨_, _, rfl, rfl, wide2 za.2.1 zb.2.2, ?_⟩
  walk_at "go"
  refine ⟨_, _, rfl, rfl, wide2 za.2.2 zb.2.1, ?_⟩
  walk_at "go"
  exact ⟨_, _, rfl, Int.mul_pos za.1 hp, small2 za.2.2 zb.2.1, g⟩
/-! ### compare, nearest -/
def spCmp (K : PySem.W.Frag) : Sp := fun vs H Q _ => ∃ (va vb : V) (a b : Rt), vs = [va, vb] ∧ Dp K H va (pD a) ∧ Dp K H vb (pD b) ∧ Sz 2000 a ∧ Sz 2000 b ∧ Q (.int (rcmp a b)) H
abbrev sc_compareN : List Str := ["a", "b", "difference"]
theorem sc_compare : FnScope sc_compareN ["a", "b"] (defScope s_compare) := ⟨rfl, rfl, rfl, by decide +kernel, rfl, by decide +kernel, by decide +kernel⟩
theorem k_compare (T : Txt K mg) : Kept P w K mg base CX0 1 "compare" ["a", "b"] [] (spCmp K) := by
  obtain ⟨fd, F⟩ := T.f_compare
  refine ⟨_, fd, [], T.g_compare, F.kp, F.bindsN (ps := ["a", "b"]) (fun _ _ _ _ _ _ us hl => match us, hl with | [_, _], _ => rfl), .nil, ?_⟩
  refine ok0 F sc_compare (fun vs H Q E h => ?_) (fun cdv A outer s H vs Q E hr h => ?_)
  · obtain ⟨va, vb, a, b, rfl, _⟩ := h
    rfl
  refine ⟨_, (pss_cons (ps_set (i := 2) sc_compare.nd rfl (.inl rfl) (pe_op op_sub (pe_op op_mulW (pe_ix ix_tup (pv 0) pe_int (fun _ _ => rfl)) (pe_ix ix_tup (pv 1) pe_int (fun _ _ => rfl))) (pe_op op_mulW (pe_ix ix_tup (pv 1) pe_int (fun _ _ => rfl)) (pe_ix ix_tup (pv 0) pe_int (fun _ _ => rfl)))))
      (pss_cons (ps_if (pt_cmpR op_eq (pv 2) pe_int (nomark _)) (pss_one (ps_ret pe_int)) pss_nil)
      (pss_one (ps_ret (pe_op op_fdivW (pv 2) (pe_callB call_abs (by rfl) (Txt.n_abs T) (by decide +kernel) (pa_cons (pv 2) pa_nil))))))), ?_⟩
  obtain ⟨va, vb, a, b, rfl, da, db, za, zb, g⟩ := h
  obtain ⟨pa, rfl, ha⟩ := dp_pair da
  obtain ⟨pb, rfl, hb⟩ := dp_pair db
  walk_at "go"
  refine ⟨_, _, rfl, rfl, wide2 za.2.1 zb.2.2, ?_⟩
  walk_at "go"
  refine ⟨_, _, rfl, rfl, wide2 zb.2.1 za.2.2, ?_⟩
  walk_at "go"
  have hd : (a.1 * b.2 - b.1 * a.2).natAbs < 2 ^ 8000 := lt_more (lt_sub (lt_mul za.2.1 zb.2.2) (lt_mul zb.2.1 za.2.2)) (by omega)
  unfold rcmp dsgn at g
  refine ifD (fun e => ?_) (fun e => ?_)
  · have e0 := V.int.inj e
    rw [if_pos e0] at g
    walk_at "go"
    exact g
  · have e0 : ¬ a.1 * b.2 - b.1 * a.2 = 0 := fun z => e (congrArg V.int z)
    rw [if_neg e0] at g
    walk_at "go"
    refine ⟨_, rfl, ?_⟩
    refine ⟨_, _, rfl, rfl, ?_, ?_⟩
    · by_cases n : a.1 * b.2 - b.1 * a.2 < 0
      · rw [if_pos n]
        exact wide_div (b := 8000) (by omega) (by rw [Int.natAbs_neg]; exact hd) (by omega) (by omega)
      · rw [if_neg n]
        exact wide_div (b := 8000) (by omega) hd (by omega) (by omega)
    · walk_at "go"
      exact g
def spNear (K : PySem.W.Frag) : Sp := fun vs H Q _ => ∃ (va : V) (a : Rt), vs = [va] ∧ Dp K H va (pD a) ∧ Sz 2000 a ∧ Q (.int (rnear a)) H
abbrev sc_nearestN : List Str := ["a"]
theorem sc_nearest : FnScope sc_nearestN ["a"] (defScope s_nearest) := ⟨rfl, rfl, rfl, by decide +kernel, rfl, by decide +kernel, by decide +kernel⟩
theorem k_nearest (T : Txt K mg) : Kept P w K mg base CX0 1 "nearest" ["a"] [] (spNear K) := by
  obtain ⟨fd, F⟩ := T.f_nearest
  refine ⟨_, fd, [], T.g_nearest, F.kp, F.bindsN (ps := ["a"]) (fun _ _ _ _ _ _ us hl => match us, hl with | [_], _ => rfl), .nil, ?_⟩
  refine ok0 F sc_nearest (fun vs H Q E h => ?_) (fun cdv A outer s H vs Q E hr h => ?_)
  · obtain ⟨va, a, rfl, _⟩ := h
    rfl
  refine ⟨_, (pss_one (ps_ret (pe_op op_fdivW (pe_op op_add (pe_op op_mulW pe_int (pe_ix ix_tup (pv 0) pe_int (fun _ _ => rfl))) (pe_ix ix_tup (pv 0) pe_int (fun _ _ => rfl))) (pe_op op_mulW pe_int (pe_ix ix_tup (pv 0) pe_int (fun _ _ => rfl)))))), ?_⟩
  obtain ⟨va, a, rfl, da, za, g⟩ := h
  obtain ⟨pa, rfl, ha⟩ := dp_pair da
  have t2 : (2 : Int).natAbs < 2 ^ 2000 := Nat.lt_of_lt_of_le (by decide : (2 : Int).natAbs < 2 ^ 2) (Nat.pow_le_pow_right (by omega) (by omega))
  walk_at "go"
  refine ⟨_, _, rfl, rfl, wide2 t2 za.2.1, ?_⟩
  walk_at "go"
  refine ⟨_, _, rfl, rfl, wide2 t2 za.2.2, ?_⟩
  walk_at "go"
  refine ⟨_, _, rfl, rfl, wide_div (b := 8000) (by have := za.1; omega) (small2 t2 za.2.2) (by omega) (by omega), ?_⟩
  walk_at "go"
  exact g
end
end Fl
set_option Elab.async false
set_option linter.all false
set_option maxRecDepth 100000
set_option maxHeartbeats 4000000
/-! Shares of a place, factors of regions. -/
namespace Fl
open PySem PySem.Spec PyProof.Rows L2
local macro_rules | `(tactic| walk_at "fx") => `(tactic| first | assumption | solve_by_elim [seqT, Same.trans, Same.seq])
local macro_rules | `(tactic| walk_at "cl") => `(tactic| first | assumption | exact Txt.c_Glyph (by assumption) | exact Txt.c_Font (by assumption) | exact Txt.c_Moves (by assumption))
local macro_rules | `(tactic| walk_at "na") => `(tactic| first | assumption | exact Txt.a_Glyph_advance (by assumption) | exact Txt.a_Glyph_outline (by assumption) | exact Txt.a_Glyph_parts (by assumption) | exact Txt.a_Glyph_anchors (by assumption) | exact Txt.a_Glyph_mark (by assumption) | exact Txt.a_Glyph_deltas (by assumption) | exact Txt.a_Glyph_hint (by assumption) | exact Txt.a_Font_unit (by assumption) | exact Txt.a_Font_glyphs (by assumption) | exact Txt.a_Font_chars (by assumption) | exact Txt.a_Font_lookups (by assumption) | exact Txt.a_Font_features (by assumption) | exact Txt.a_Font_axes (by assumption) | exact Txt.a_Font_regions (by assumption) | exact Txt.a_Font_functions (by assumption) | exact Txt.a_Font_presets (by assumption) | exact Txt.a_Moves_sums (by assumption))
local macro_rules | `(tactic| walk_at "step") => `(tactic| first
  | (with_reducible refine x_c ?_)
  | ((with_reducible show tVar _ _ _ _); refine ⟨_, rfl, ?_⟩)
  | (with_reducible refine x_op ?_) | (with_reducible refine x_seq ?_) | (with_reducible refine x_nx ?_) | (with_reducible refine x_asg ?_) | (with_reducible refine x_name ?_)
  | ((with_reducible show rI0 _ _ _ _ _); refine ⟨_, _, rfl, rfl, ?_⟩)
  | (with_reducible refine x_ret ?_) | (with_reducible refine x_rt ?_) | (with_reducible refine x_ifS ?_) | (with_reducible refine x_test ?_) | (with_reducible refine x_bl ?_)
  | (with_reducible refine x_cons ?_) | (with_reducible refine x_nil ?_) | (with_reducible refine x_call ?_) | (with_reducible refine x_CB ?_)
  | ((with_reducible refine' x_ixT ?h ?e ?q); (case h => walk_at "fx"); (case e => rfl))
  | ((with_reducible refine' x_ixL ?h ?e ?q); (case h => walk_at "fx"); (case e => rfl))
  | (with_reducible refine x_fld ?_)
  | ((with_reducible refine' x_at ?h ?c ?n ?l ?q); (case h => walk_at "fx"); (case c => walk_at "cl"); (case n => walk_at "na"); (case l => rfl))
  | (with_reducible refine x_un ?_) | ((with_reducible show rU _ _ _ _); refine ⟨_, rfl, ?_⟩)
  | (with_reducible refine x_not ?_) | (with_reducible refine x_and ?_) | (with_reducible refine x_or ?_) | (with_reducible refine x_tB ?_) | (with_reducible refine x_andV ?_) | (with_reducible refine x_notV ?_) | (with_reducible refine x_chain ?_) | (with_reducible refine x_chn ?_) | (with_reducible refine x_link ?_) | (with_reducible refine x_last ?_)
  | ((with_reducible refine x_eq ?s ?_); (case s => rfl)) | ((with_reducible refine x_ne ?s ?_); (case s => rfl))
  | (with_reducible refine x_tup ?_) | (with_reducible refine x_lst ?_) | (with_reducible refine x_disp (Nat.le_of_ble_eq_true rfl) ?_)
  | (with_reducible refine x_retN ?_) | (with_reducible refine x_drop ?_) | (with_reducible refine x_next ?_) | (with_reducible refine x_bk ?_) | (with_reducible refine x_ct ?_) | (with_reducible refine x_sfld ?_)
  | ((with_reducible refine' x_gtup ?h ?e ?q); (case h => walk_at "fx"); (case e => rfl)) | ((with_reducible refine' x_gunl ?h ?e ?q); (case h => walk_at "fx"); (case e => rfl))
  | (with_reducible refine x_gcons ?_) | (with_reducible refine x_gnil ?_) | (with_reducible refine x_gsub ?_)
  | (with_reducible refine x_for ?_) | (with_reducible refine x_lc ?_) | (with_reducible refine x_yes ?_) | (with_reducible refine x_iList ?_) | (with_reducible refine x_iTup ?_) | (with_reducible refine x_iSeq ?_) | (with_reducible refine x_iZip ?_) | (with_reducible refine x_iEnum ?_) | (with_reducible refine x_iRng1 ?_)
  | ((with_reducible refine' x_itL ?h ?q); (case h => walk_at "fx")) | ((with_reducible refine' x_itT ?h ?q); (case h => walk_at "fx")) | ((with_reducible refine' x_itSL ?h ?q); (case h => walk_at "fx")) | ((with_reducible refine' x_itST ?h ?q); (case h => walk_at "fx"))
  | ((with_reducible refine' x_itZ ?h1 ?h2 ?q); (case h1 => walk_at "fx"); (case h2 => walk_at "fx")) | ((with_reducible refine' x_itE ?h ?q); (case h => walk_at "fx"))
  | ((with_reducible refine' x_lenL ?h ?q); (case h => walk_at "fx")) | ((with_reducible refine' x_lenT ?h ?q); (case h => walk_at "fx"))
  | ((with_reducible refine' x_lofL ?h ?q); (case h => walk_at "fx")) | ((with_reducible refine' x_lofT ?h ?q); (case h => walk_at "fx"))
  | (with_reducible refine x_aug ?_) | (with_reducible refine x_ipI ?_) | (with_reducible refine x_meth ?_) | (with_reducible refine x_makeK ?_)
  | (with_reducible refine iteT ?_) | (with_reducible refine iteF ?_) | (with_reducible refine ifNT' ?_) | (with_reducible refine ifNF' ?_))
local macro_rules | `(tactic| walk_at "go") => `(tactic| repeat walk_at "step")
section
variable {P : Program} {w : World} {K : PySem.W.Frag} {mg : Str → Option Value} {base : Heap}
theorem nothing_dp (T : Txt K mg) (H : Hp) : Dp K H (.ref (He.ga K "NOTHING")) (pD (0, 1)) := pair_dp (p := (0, 1)) ((Txt.more T).2.2.1 H)
theorem whole_dp (T : Txt K mg) (H : Hp) : Dp K H (.ref (He.ga K "WHOLE")) (pD (1, 1)) := pair_dp (p := (1, 1)) ((Txt.more T).2.1 H)
theorem flat_p (p : Rt) : flat (pD p) = true := rfl
/-! ### share -/
def spShare (K : PySem.W.Frag) : Sp := fun vs H Q _ => ∃ (va : V) (n : Int) (a : Ax), vs = [va, .int n] ∧ Dp K H va (t3D a) ∧ AxOk a ∧ a.1 ≤ n ∧ n ≤ a.2.2 ∧ Gives K H Q (pD (shareM a n))
abbrev sc_shareN : List Str := ["axis", "number", "least", "normal", "greatest"]
theorem sc_share : FnScope sc_shareN ["axis", "number"] (defScope s_share) := ⟨rfl, rfl, rfl, by decide +kernel, rfl, by decide +kernel, by decide +kernel⟩
theorem k_share (T : Txt K mg) : Kept P w K mg base CX0 2 "share" ["axis", "number"] [] (spShare K) := by
  obtain ⟨fd, F⟩ := T.f_share
  refine ⟨_, fd, [], T.g_share, F.kp, F.bindsN (ps := ["axis", "number"]) (fun _ _ _ _ _ _ us hl => match us, hl with | [_, _], _ => rfl), .nil, ?_⟩
  refine ok0 F sc_share (fun vs H Q E h => ?_) (fun cdv A outer s H vs Q E hr h => ?_)
  · obtain ⟨va, n, a, rfl, _⟩ := h
    rfl
  refine ⟨_, (pss_cons (ps_asg (pv 0) (pg_tup rfl (pgs_cons (pg_name (i := 2) sc_share.nd rfl (.inl rfl)) (pgs_cons (pg_name (i := 3) sc_share.nd rfl (.inl rfl)) (pgs_cons (pg_name (i := 4) sc_share.nd rfl (.inl rfl)) pgs_nil)))))
      (pss_cons (ps_if (pt_cmpR op_gt (pv 1) (pv 3) (nomark _)) (pss_one (ps_ret (pe_kc (k_ratio T) (by decide) hr (by rfl) pass0 (pa_cons (pe_op op_sub (pv 1) (pv 3)) (pa_cons (pe_op op_sub (pv 4) (pv 3)) pa_nil))))) pss_nil)
      (pss_cons (ps_if (pt_cmpR op_lt (pv 1) (pv 3) (nomark _)) (pss_one (ps_ret (pe_kc (k_ratio T) (by decide) hr (by rfl) pass0 (pa_cons (pe_op op_sub (pv 1) (pv 3)) (pa_cons (pe_op op_sub (pv 3) (pv 2)) pa_nil))))) pss_nil)
      (pss_one (ps_ret (pe_glob (v := .ref (He.ga K "NOTHING")) (by rfl) (Txt.g_NOTHING T) rfl)))))), ?_⟩
  obtain ⟨va, n, a, rfl, da, ok, l1, l2, g⟩ := h
  obtain ⟨pa, rfl, ha⟩ := dp_t3 da
  obtain ⟨b1, b2, b3, b4⟩ := ok
  walk_at "go"
  unfold shareM at g
  refine ifD (fun c => ?_) (fun c => ?_)
  · rw [if_pos c] at g
    walk_at "go"
    exact ⟨_, _, rfl, by omega, lt_more (k := 8000) (lt16 (by omega)) (by omega), g⟩
  · rw [if_neg c] at g
    walk_at "go"
    refine ifD (fun c => ?_) (fun c => ?_)
    · rw [if_pos c] at g
      walk_at "go"
      exact ⟨_, _, rfl, by omega, lt_more (k := 8000) (lt16 (by omega)) (by omega), g⟩
    · rw [if_neg c] at g
      walk_at "go"
      exact g _ _ (Same.refl _) (nothing_dp T _)
/-! ### shares -/
def spShares (K : PySem.W.Frag) : Sp := fun vs H Q _ => ∃ (vf vp : V) (f : Fd) (pl : List Int), vs = [vf, vp] ∧ FontAt K H vf f ∧ Dp K H vp (.list (pl.map .int)) ∧ (∀ a ∈ f.axes, AxOk a) ∧ f.axes.length ≤ 3 ∧ InAx f.axes pl ∧ Gives K H Q (.list ((sharesM f.axes pl).map pD))
theorem dps_map {α : Type} {K : PySem.W.Frag} {H : Hp} {f : α → PyData} {vs : List V} {l : List α} {i : Nat} {v : V} (h : DpAll K H vs (l.map f)) (e : vs[i]? = some v) : ∃ x, l[i]? = some x ∧ Dp K H v (f x) := by
  obtain ⟨d, e1, e2⟩ := dps_get h e
  rw [List.getElem?_map] at e1
  cases q : l[i]? with
  | none => rw [q] at e1; cases e1
  | some x =>
    rw [q] at e1
    cases e1
    exact ⟨x, rfl, e2⟩
theorem dps_mlen {α : Type} {K : PySem.W.Frag} {H : Hp} {f : α → PyData} {vs : List V} {l : List α} (h : DpAll K H vs (l.map f)) : vs.length = l.length := by
  rw [dps_len h, List.length_map]
abbrev sc_sharesN : List Str := ["font", "place", "axis", "number"]
theorem sc_shares : FnScope sc_sharesN ["font", "place"] (defScope s_shares) := ⟨rfl, rfl, rfl, by decide +kernel, rfl, by decide +kernel, by decide +kernel⟩
theorem k_shares (T : Txt K mg) : Kept P w K mg base CX0 3 "shares" ["font", "place"] [] (spShares K) := by
  obtain ⟨fd, F⟩ := T.f_shares
  refine ⟨_, fd, [], T.g_shares, F.kp, F.bindsN (ps := ["font", "place"]) (fun _ _ _ _ _ _ us hl => match us, hl with | [_, _], _ => rfl), .nil, ?_⟩
  refine ok0 F sc_shares (fun vs H Q E h => ?_) (fun cdv A outer s H vs Q E hr h => ?_)
  · obtain ⟨vf, vp, f, pl, rfl, _⟩ := h
    rfl
  refine ⟨_, (pss_cons (ps_if (pt_cmpR op_ne (pe_callB (lenK K rfl) (by rfl) (Txt.n_len T) PySem.boot_len (pa_cons (pv 1) pa_nil)) (pe_callB (lenK K rfl) (by rfl) (Txt.n_len T) PySem.boot_len (pa_cons (pe_fld (pv 0) rfl) pa_nil)) (nomark _)) (pss_one ps_never) pss_nil)
      (pss_cons (ps_for PassesOwn.never rfl (pi_zip (by rfl) (Txt.n_zip T) (pa_cons (pe_fld (pv 0) rfl) (pa_cons (pv 1) pa_nil))) (pg_tup rfl (pgs_cons (pg_name (i := 2) sc_shares.nd rfl (.inl rfl)) (pgs_cons (pg_name (i := 3) sc_shares.nd rfl (.inl rfl)) pgs_nil))) (pss_one (ps_if (pt_not (pt_chn (pe_ix ix_tup (pv 2) pe_int (fun _ _ => rfl)) (ptc_link op_le (pv 3) (ptc_last op_le (pe_ix ix_tup (pv 2) pe_int (fun _ _ => rfl)))))) (pss_one ps_never) pss_nil)))
      (pss_one (ps_ret (pe_lc (own := [("axis", 2), ("number", 3)]) (tt := tYes) rfl sc_shares.nd (pi_zip (by rfl) (Txt.n_zip T) (pa_cons (pe_fld (pv 0) rfl) (pa_cons (pv 1) pa_nil))) (blkOk_by (N := sc_sharesN) (sc := (defScope s_shares)) (by decide +kernel)) (fun _ _ _ _ _ => (pg_t2 K rfl (i := 2) (j := 3) rfl sc_shares.nd rfl rfl (.inl rfl) (.inl rfl) (.inr rfl) (.inr rfl))) (fun _ _ _ _ _ => pts_nil) (fun _ _ _ _ _ => (pe_kc (k_share T) (by decide) hr (by rfl) pass0 (pa_cons (pv 2) (pa_cons (pv 3) pa_nil))))))))), ?_⟩
  obtain ⟨vf, vp, f, pl, rfl, hf, dp, ok, h3, hi, g⟩ := h
  obtain ⟨a, dx, gl, gvs, vc, vl, vfe, va, vr, vu, vpr, rfl, h0, h1, h2, h3', h4, h5, h6, h7, h8, h9⟩ := hf
  obtain ⟨pa, pxs, rfl, ha, hpx⟩ := dp_lst dp
  obtain ⟨aa, axs, rfl, haa, hax⟩ := dp_lst h6
  have lp := dps_mlen hpx
  have la := dps_mlen hax
  have hl := hi.len
  walk_at "go"
  refine ifNF (by rw [lp, la, hl]) ?_
  walk_at "go"
  refine for_at f.axes.length (fun i σ' H' => Same H H' ∧ ∃ x y, σ' = [some (.ref a), some (.ref pa), x, y]) ⟨Same.refl _, _, _, rfl⟩ (fun i σ' H' lt F => ?_) (fun σ' H' F => ?_)
  · obtain ⟨s, x, y, rfl⟩ := F
    have Z := walk_zip (n := f.axes.length) haa ha la (by omega)
    refine ⟨Z.go _ _ s lt, fun x H2 yy => ?_⟩
    obtain ⟨s2, t, x1, y1, rfl, ht, e1, e2⟩ := Z.yld _ _ _ _ s lt yy
    obtain ⟨ax, m1, d1⟩ := dps_map hax e1
    obtain ⟨n, m2, d2⟩ := dps_map hpx e2
    cases dp_int d2
    obtain ⟨p1, rfl, q1⟩ := dp_t3 ((s.trans s2).dp d1)
    obtain ⟨r1, r2⟩ := hi.all _ _ _ m1 m2
    have ht := SqT.of (K := K) ht
    walk_at "go"
    refine ifT r1 ?_
    walk_at "go"
    refine ifNF r2 ?_
    walk_at "go"
    exact ⟨s.trans s2, _, _, rfl⟩
  · obtain ⟨s, x, y, rfl⟩ := F
    have Z := walk_zip (K := K) (n := f.axes.length) (s.seq haa) (s.seq ha) la (by omega)
    refine ⟨Z.stop _ (Same.refl _), ?_⟩
    have h0' := s _ _ h0
    have haa' := s.seq haa
    have ha' := s.seq ha
    walk_at "go"
    intro L nL
    refine lc_flat (K := K) ((sharesM f.axes pl).map pD) Z (by rw [List.length_map, sharesM_length hl]) (by omega) (flats_map flat_p _) nL (fun i x H2 lt s2 yy P cl => ?_) (fun H2 s2 d => g _ _ (s.trans s2) d)
    obtain ⟨t, x1, y1, rfl, ht, e1, e2⟩ := yy
    obtain ⟨ax, m1, d1⟩ := dps_map hax e1
    obtain ⟨n, m2, d2⟩ := dps_map hpx e2
    cases dp_int d2
    obtain ⟨r1, r2⟩ := hi.all _ _ _ m1 m2
    have ht := SqT.of (K := K) ht
    have d1' := (s.trans s2).dp d1
    walk_at "go"
    refine ⟨rfl, ?_⟩
    walk_at "go"
    refine ⟨_, n, ax, rfl, d1', ok _ (List.mem_of_getElem? m1), r1, r2, fun v H' s3 d => cl _ _ _ s3 ?_ d⟩
    rw [List.getElem?_map]
    unfold sharesM
    rw [List.getElem?_zipWith, m1, m2]
    rfl
/-! ### tent_factor -/
def spTent (K : PySem.W.Frag) : Sp := fun vs H Q _ => ∃ (vt vp : V) (t : Ax) (p : Rt), vs = [vt, vp] ∧ Dp K H vt (t3D t) ∧ Dp K H vp (pD p) ∧ TentOk t ∧ Sz 16 p ∧ Gives K H Q (pD (tentF t p))
theorem three_at {α : Type} {a b c x : α} {i : Nat} (lt : i < 3) (e : [a, b, c][i]? = some x) : (i = 0 ∧ x = a) ∨ (i = 1 ∧ x = b) ∨ (i = 2 ∧ x = c) := by
  rcases i with _ | _ | _ | i
  · simp at e
    exact .inl ⟨rfl, e.symm⟩
  · simp at e
    exact .inr (.inl ⟨rfl, e.symm⟩)
  · simp at e
    exact .inr (.inr ⟨rfl, e.symm⟩)
  · omega
theorem dsgn_of_le {d : Int} (h : dsgn d ≤ 0) : d ≤ 0 := by
  by_cases z : 0 < d
  · rw [dsgn_of_pos z] at h
    omega
  · omega
abbrev sc_tent_factorN : List Str := ["tent", "part", "start", "peak", "end", "at", "number"]
theorem sc_tent_factor : FnScope sc_tent_factorN ["tent", "part"] (defScope s_tent_factor) := ⟨rfl, rfl, rfl, by decide +kernel, rfl, by decide +kernel, by decide +kernel⟩
theorem k_tent_factor (T : Txt K mg) : Kept P w K mg base CX0 3 "tent_factor" ["tent", "part"] [] (spTent K) := by
  obtain ⟨fd, F⟩ := T.f_tent_factor
  refine ⟨_, fd, [], T.g_tent_factor, F.kp, F.bindsN (ps := ["tent", "part"]) (fun _ _ _ _ _ _ us hl => match us, hl with | [_, _], _ => rfl), .nil, ?_⟩
  refine ok0 F sc_tent_factor (fun vs H Q E h => ?_) (fun cdv A outer s H vs Q E hr h => ?_)
  · obtain ⟨vt, vp, t, p, rfl, _⟩ := h
    rfl
  refine ⟨_, (pss_cons (ps_asg (pe_lc (own := [("number", 6)]) (tt := tYes) rfl sc_tent_factor.nd (pi_tup (pv 0)) (blkOk_by (N := sc_tent_factorN) (sc := (defScope s_tent_factor)) (by decide +kernel)) (fun _ _ _ _ _ => (pg_name (i := 6) sc_tent_factor.nd rfl (.inl rfl))) (fun _ _ _ _ _ => pts_nil) (fun _ _ _ _ _ => (pe_kc (k_ratio1 T) (by decide) hr (by rfl) pass0 (pa_cons (pv 6) pa_nil)))) (pg_unl rfl (pgs_cons (pg_name (i := 2) sc_tent_factor.nd rfl (.inl rfl)) (pgs_cons (pg_name (i := 3) sc_tent_factor.nd rfl (.inl rfl)) (pgs_cons (pg_name (i := 4) sc_tent_factor.nd rfl (.inl rfl)) pgs_nil)))))
      (pss_cons (ps_set (i := 5) sc_tent_factor.nd rfl (.inl rfl) (pe_kc (k_multiply T) (by decide) hr (by rfl) pass0 (pa_cons (pv 1) (pa_cons (pe_kc (k_ratio1 T) (by decide) hr (by rfl) pass0 (pa_cons pe_int pa_nil)) pa_nil))))
      (pss_cons (ps_if (PW.pt (pw_or (pt_cmpR (op_eqD hr.units) (pv 3) (pe_glob (v := .ref (He.ga K "NOTHING")) (by rfl) (Txt.g_NOTHING T) rfl) (nomark _)) (pw_or1 (pt_cmpR (op_eqD hr.units) (pv 5) (pv 3) (nomark _))))) (pss_one (ps_ret (pe_glob (v := .ref (He.ga K "WHOLE")) (by rfl) (Txt.g_WHOLE T) rfl))) pss_nil)
      (pss_cons (ps_if (PW.pt (pw_or (pt_cmpR op_le (pe_kc (k_compare T) (by decide) hr (by rfl) pass0 (pa_cons (pv 5) (pa_cons (pv 2) pa_nil))) pe_int (nomark _)) (pw_or1 (pt_cmpR op_ge (pe_kc (k_compare T) (by decide) hr (by rfl) pass0 (pa_cons (pv 5) (pa_cons (pv 4) pa_nil))) pe_int (nomark _))))) (pss_one (ps_ret (pe_glob (v := .ref (He.ga K "NOTHING")) (by rfl) (Txt.g_NOTHING T) rfl))) pss_nil)
      (pss_cons (ps_if (pt_cmpR op_lt (pe_kc (k_compare T) (by decide) hr (by rfl) pass0 (pa_cons (pv 5) (pa_cons (pv 3) pa_nil))) pe_int (nomark _)) (pss_one (ps_ret (pe_kc (k_divide T) (by decide) hr (by rfl) pass0 (pa_cons (pe_kc (k_subtract T) (by decide) hr (by rfl) pass0 (pa_cons (pv 5) (pa_cons (pv 2) pa_nil))) (pa_cons (pe_kc (k_subtract T) (by decide) hr (by rfl) pass0 (pa_cons (pv 3) (pa_cons (pv 2) pa_nil))) pa_nil))))) pss_nil)
      (pss_one (ps_ret (pe_kc (k_divide T) (by decide) hr (by rfl) pass0 (pa_cons (pe_kc (k_subtract T) (by decide) hr (by rfl) pass0 (pa_cons (pv 4) (pa_cons (pv 5) pa_nil))) (pa_cons (pe_kc (k_subtract T) (by decide) hr (by rfl) pass0 (pa_cons (pv 4) (pa_cons (pv 3) pa_nil))) pa_nil)))))))))), ?_⟩
  obtain ⟨vt, vp, t, p, rfl, dt, dp, ok, zp, g⟩ := h
  obtain ⟨pt, rfl, ht⟩ := dp_t3 dt
  obtain ⟨b1, b2, b3, b4⟩ := ok
  have zs : Sz 7 (t.1, 1) := sz_int (lt7 (by omega)) (by decide)
  have zk : Sz 7 (t.2.1, 1) := sz_int (lt7 (by omega)) (by decide)
  have ze : Sz 7 (t.2.2, 1) := sz_int (lt7 (by omega)) (by decide)
  have za := at_pos zp
  walk_at "go"
  intro L nL
  refine lc_flat (K := K) [pD (t.1, 1), pD (t.2.1, 1), pD (t.2.2, 1)] (walk_tup ht) rfl (by show 3 ≤ 1000; decide) rfl nL (fun i x H2 lt s2 e P cl => ?_) (fun H2 s2 d => ?_)
  · have one : ∀ n : Int, rat n 1 = (n, 1) := rat_one
    have lt : i < 3 := lt
    rcases three_at lt e with ⟨rfl, rfl⟩ | ⟨rfl, rfl⟩ | ⟨rfl, rfl⟩
    · walk_at "go"
      refine ⟨rfl, ?_⟩
      walk_at "go"
      exact ⟨_, 1, rfl, by decide, Nat.lt_of_lt_of_le (by decide : (1 : Int).natAbs < 2 ^ 1) (Nat.pow_le_pow_right (by omega) (by omega)), fun v H' s3 d => cl _ _ _ s3 rfl (by rw [rat_one] at d; exact d)⟩
    · walk_at "go"
      refine ⟨rfl, ?_⟩
      walk_at "go"
      exact ⟨_, 1, rfl, by decide, Nat.lt_of_lt_of_le (by decide : (1 : Int).natAbs < 2 ^ 1) (Nat.pow_le_pow_right (by omega) (by omega)), fun v H' s3 d => cl _ _ _ s3 rfl (by rw [rat_one] at d; exact d)⟩
    · walk_at "go"
      refine ⟨rfl, ?_⟩
      walk_at "go"
      exact ⟨_, 1, rfl, by decide, Nat.lt_of_lt_of_le (by decide : (1 : Int).natAbs < 2 ^ 1) (Nat.pow_le_pow_right (by omega) (by omega)), fun v H' s3 d => cl _ _ _ s3 rfl (by rw [rat_one] at d; exact d)⟩
  obtain ⟨l, xs, e, hl, ds⟩ := dp_lst d
  cases e
  obtain ⟨vs, r, rfl, ds1, ds⟩ := dps_cons ds
  obtain ⟨vk, r, rfl, dk1, ds⟩ := dps_cons ds
  obtain ⟨ve, r, rfl, de1, ds⟩ := dps_cons ds
  rw [dps_nil ds] at hl
  walk_at "go"
  refine ⟨_, 1, rfl, by decide, Nat.lt_of_lt_of_le (by decide : (1 : Int).natAbs < 2 ^ 1) (Nat.pow_le_pow_right (by omega) (by omega)), fun v H' s3 d3 => ?_⟩
  rw [rat_one] at d3
  walk_at "go"
  refine ⟨_, _, p, (64, 1), rfl, (s2.trans s3).dp dp, d3, zp.mono (by decide), sz_int (lt_more (lt7 (x := 64) (by decide)) (by omega)) (by decide), trivial, fun va H4 s4 da => ?_⟩
  have s34 := s3.trans s4
  have dk4 := s34.dp dk1
  have ds4 := s34.dp ds1
  have de4 := s34.dp de1
  have g4 := Gives.ahead g (s2.trans s34)
  have za2 := za.mono (show 23 ≤ 2000 by decide)
  have zs2 := zs.mono (show 7 ≤ 2000 by decide)
  have zk2 := zk.mono (show 7 ≤ 2000 by decide)
  have ze2 := ze.mono (show 7 ≤ 2000 by decide)
  have pk0 : ∀ x : Int, ((x, (1 : Int)) : Rt) = (0, 1) ↔ x = 0 := fun x => ⟨fun z => congrArg Prod.fst z, fun z => by rw [z]⟩
  unfold tentF at g4
  walk_at "go"
  refine x_eqP dk4 (nothing_dp T _) ?_
  walk_at "go"
  refine ifD (fun c => ?_) (fun c => ?_)
  · rw [if_pos (.inl ((pk0 _).mp c))] at g4
    walk_at "go"
    exact g4 _ _ (Same.refl _) (whole_dp T _)
  walk_at "go"
  refine x_eqP da dk4 ?_
  walk_at "go"
  refine ifD (fun c2 => ?_) (fun c2 => ?_)
  · rw [if_pos (.inr c2)] at g4
    walk_at "go"
    exact g4 _ _ (Same.refl _) (whole_dp T _)
  rw [if_neg (fun z => z.elim (fun z => c ((pk0 _).mpr z)) c2)] at g4
  walk_at "go"
  refine ⟨_, _, _, _, rfl, da, ds4, za2, zs2, ?_⟩
  walk_at "go"
  refine ifD (fun c3 => ?_) (fun c3 => ?_)
  · rw [if_pos (.inl c3)] at g4
    walk_at "go"
    exact g4 _ _ (Same.refl _) (nothing_dp T _)
  walk_at "go"
  refine ⟨_, _, _, _, rfl, da, de4, za2, ze2, ?_⟩
  walk_at "go"
  refine ifD (fun c4 => ?_) (fun c4 => ?_)
  · rw [if_pos (.inr c4)] at g4
    walk_at "go"
    exact g4 _ _ (Same.refl _) (nothing_dp T _)
  rw [if_neg (fun z => z.elim c3 c4)] at g4
  walk_at "go"
  refine ⟨_, _, _, _, rfl, da, dk4, za2, zk2, ?_⟩
  walk_at "go"
  refine ifD (fun c5 => ?_) (fun c5 => ?_)
  · rw [if_pos c5] at g4
    walk_at "go"
    refine ⟨_, _, _, _, rfl, da, ds4, za2, zs2, trivial, fun v1 H5 s5 d5 => ?_⟩
    walk_at "go"
    refine ⟨_, _, _, _, rfl, s5.dp dk4, s5.dp ds4, zk2, zs2, trivial, fun v2 H6 s6 d6 => ?_⟩
    walk_at "go"
    exact ⟨_, _, _, _, rfl, s6.dp d5, d6, (sz_sub za zs).mono (by decide), (sz_sub zk zs).mono (by decide), tent_left za.1 c3 c5, g4.ahead (s5.trans s6)⟩
  · rw [if_neg c5] at g4
    walk_at "go"
    refine ⟨_, _, _, _, rfl, de4, da, ze2, za2, trivial, fun v1 H5 s5 d5 => ?_⟩
    walk_at "go"
    refine ⟨_, _, _, _, rfl, s5.dp de4, s5.dp dk4, ze2, zk2, trivial, fun v2 H6 s6 d6 => ?_⟩
    walk_at "go"
    exact ⟨_, _, _, _, rfl, s6.dp d5, d6, (sz_sub ze za).mono (by decide), (sz_sub ze zk).mono (by decide), tent_right za.1 c4 c5, g4.ahead (s5.trans s6)⟩
/-! ### factor -/
def spFactor (K : PySem.W.Frag) : Sp := fun vs H Q _ => ∃ (vr vp : V) (r : List Ax) (ps : List Rt) (n : Nat), vs = [vr, vp] ∧ Dp K H vr (regD r) ∧ Dp K H vp (.list (ps.map pD)) ∧ RegOk n r ∧ n ≤ 3 ∧ ps.length = n ∧ (∀ p ∈ ps, Sz 16 p) ∧ Gives K H Q (pD (factorM r ps))
abbrev sc_factorN : List Str := ["region", "parts", "result", "tent", "part"]
theorem sc_factor : FnScope sc_factorN ["region", "parts"] (defScope s_factor) := ⟨rfl, rfl, rfl, by decide +kernel, rfl, by decide +kernel, by decide +kernel⟩
theorem k_factor (T : Txt K mg) : Kept P w K mg base CX0 4 "factor" ["region", "parts"] [] (spFactor K) := by
  obtain ⟨fd, F⟩ := T.f_factor
  refine ⟨_, fd, [], T.g_factor, F.kp, F.bindsN (ps := ["region", "parts"]) (fun _ _ _ _ _ _ us hl => match us, hl with | [_, _], _ => rfl), .nil, ?_⟩
  refine ok0 F sc_factor (fun vs H Q E h => ?_) (fun cdv A outer s H vs Q E hr h => ?_)
  · obtain ⟨vr, vp, r, ps, n, rfl, _⟩ := h
    rfl
  refine ⟨_, (pss_cons (ps_set (i := 2) sc_factor.nd rfl (.inl rfl) (pe_glob (v := .ref (He.ga K "WHOLE")) (by rfl) (Txt.g_WHOLE T) rfl))
      (pss_cons (ps_for PassesOwn.never rfl (pi_zip (by rfl) (Txt.n_zip T) (pa_cons (pv 0) (pa_cons (pv 1) pa_nil))) (pg_tup rfl (pgs_cons (pg_name (i := 3) sc_factor.nd rfl (.inl rfl)) (pgs_cons (pg_name (i := 4) sc_factor.nd rfl (.inl rfl)) pgs_nil))) (pss_one (ps_set (i := 2) sc_factor.nd rfl (.inl rfl) (pe_kc (k_multiply T) (by decide) hr (by rfl) pass0 (pa_cons (pv 2) (pa_cons (pe_kc (k_tent_factor T) (by decide) hr (by rfl) pass0 (pa_cons (pv 3) (pa_cons (pv 4) pa_nil))) pa_nil))))))
      (pss_one (ps_ret (pv 2))))), ?_⟩
  obtain ⟨vr, vp, r, ps, n, rfl, dr, dp, ok, h3, hl, zp, g⟩ := h
  obtain ⟨pr, rxs, rfl, hr1, hrx⟩ := dp_lst dr
  obtain ⟨pp, pxs, rfl, hp1, hpx⟩ := dp_lst dp
  have lr := dps_mlen hrx
  have lp := dps_mlen hpx
  have ln := ok.len
  have lz : (r.zip ps).length = n := by rw [List.length_zip]; omega
  have zz : ∀ tp ∈ r.zip ps, TentOk tp.1 ∧ Sz 16 tp.2 := fun tp m => ⟨ok.all _ (List.of_mem_zip m).1, zp _ (List.of_mem_zip m).2⟩
  walk_at "go"
  refine for_at n (fun i σ' H' => Same H H' ∧ ∃ v x y, σ' = [some (.ref pr), some (.ref pp), some v, x, y] ∧ Dp K H' v (pD (((r.zip ps).take i).foldl factF (1, 1)))) ⟨Same.refl _, _, _, _, rfl, whole_dp T _⟩ (fun i σ' H' lt F => ?_) (fun σ' H' F => ?_)
  · obtain ⟨s, v, x, y, rfl, dv⟩ := F
    have Z := walk_zip (K := K) (n := n) hr1 hp1 (by omega) (by omega)
    refine ⟨Z.go _ _ s lt, fun x H2 yy => ?_⟩
    obtain ⟨s2, t, x1, y1, rfl, ht, e1, e2⟩ := Z.yld _ _ _ _ s lt yy
    obtain ⟨ax, m1, d1⟩ := dps_map hrx e1
    obtain ⟨q, m2, d2⟩ := dps_map hpx e2
    have ht := SqT.of (K := K) ht
    have ez : (r.zip ps)[i]? = some (ax, q) := by rw [List.getElem?_zip_eq_some]; exact ⟨m1, m2⟩
    obtain ⟨k1, k2⟩ := zz _ (List.mem_of_getElem? ez)
    have et : (r.zip ps).take (i + 1) = (r.zip ps).take i ++ [(ax, q)] := by rw [List.take_add_one, ez]; rfl
    have zf : Sz 200 (((r.zip ps).take i).foldl factF (1, 1)) := (sz_fold _ (1, 1) 1 (sz_int (by decide) (by decide)) fun tp m => zz _ (List.mem_of_mem_take m)).mono (by rw [List.length_take]; omega)
    walk_at "go"
    refine ⟨_, _, _, _, rfl, (s.trans s2).dp d1, (s.trans s2).dp d2, k1, k2, fun v3 H3 s3 d3 => ?_⟩
    walk_at "go"
    refine ⟨_, _, _, _, rfl, (s2.trans s3).dp dv, d3, zf.mono (by decide), (sz_tent k1 k2).mono (by decide), trivial, fun v4 H4 s4 d4 => ?_⟩
    walk_at "go"
    refine ⟨((s.trans s2).trans s3).trans s4, _, _, _, rfl, ?_⟩
    rw [et, List.foldl_append]
    exact d4
  · obtain ⟨s, v, x, y, rfl, dv⟩ := F
    have Z := walk_zip (K := K) (n := n) (s.seq hr1) (s.seq hp1) (by omega) (by omega)
    refine ⟨Z.stop _ (Same.refl _), ?_⟩
    walk_at "go"
    have e : (r.zip ps).take n = r.zip ps := by rw [← lz, List.take_length]
    rw [e] at dv
    exact g _ _ s dv
end
end Fl
set_option Elab.async false
set_option linter.all false
set_option maxRecDepth 100000
set_option maxHeartbeats 4000000
/-! What a font is asked, part one: outlines, glyphs. -/
namespace Fl
open PySem PySem.Spec PyProof.Rows L2
local macro_rules | `(tactic| walk_at "fx") => `(tactic| first | assumption | solve_by_elim [seqT, Same.trans, Same.seq])
local macro_rules | `(tactic| walk_at "cl") => `(tactic| first | assumption | exact Txt.c_Glyph (by assumption) | exact Txt.c_Font (by assumption) | exact Txt.c_Moves (by assumption))
local macro_rules | `(tactic| walk_at "na") => `(tactic| first | assumption | exact Txt.a_Glyph_advance (by assumption) | exact Txt.a_Glyph_outline (by assumption) | exact Txt.a_Glyph_parts (by assumption) | exact Txt.a_Glyph_anchors (by assumption) | exact Txt.a_Glyph_mark (by assumption) | exact Txt.a_Glyph_deltas (by assumption) | exact Txt.a_Glyph_hint (by assumption) | exact Txt.a_Font_unit (by assumption) | exact Txt.a_Font_glyphs (by assumption) | exact Txt.a_Font_chars (by assumption) | exact Txt.a_Font_lookups (by assumption) | exact Txt.a_Font_features (by assumption) | exact Txt.a_Font_axes (by assumption) | exact Txt.a_Font_regions (by assumption) | exact Txt.a_Font_functions (by assumption) | exact Txt.a_Font_presets (by assumption) | exact Txt.a_Moves_sums (by assumption))
local macro_rules | `(tactic| walk_at "step") => `(tactic| first
  | (with_reducible refine x_c ?_)
  | ((with_reducible show tVar _ _ _ _); refine ⟨_, rfl, ?_⟩)
  | (with_reducible refine x_op ?_) | (with_reducible refine x_seq ?_) | (with_reducible refine x_nx ?_) | (with_reducible refine x_asg ?_) | (with_reducible refine x_name ?_)
  | ((with_reducible show rI0 _ _ _ _ _); refine ⟨_, _, rfl, rfl, ?_⟩)
  | (with_reducible refine x_ret ?_) | (with_reducible refine x_rt ?_) | (with_reducible refine x_ifS ?_) | (with_reducible refine x_test ?_) | (with_reducible refine x_bl ?_)
  | (with_reducible refine x_cons ?_) | (with_reducible refine x_nil ?_) | (with_reducible refine x_call ?_) | (with_reducible refine x_CB ?_)
  | ((with_reducible refine' x_ixT ?h ?e ?q); (case h => walk_at "fx"); (case e => rfl))
  | ((with_reducible refine' x_ixL ?h ?e ?q); (case h => walk_at "fx"); (case e => rfl))
  | (with_reducible refine x_fld ?_)
  | ((with_reducible refine' x_at ?h ?c ?n ?l ?q); (case h => walk_at "fx"); (case c => walk_at "cl"); (case n => walk_at "na"); (case l => rfl))
  | (with_reducible refine x_un ?_) | ((with_reducible show rU _ _ _ _); refine ⟨_, rfl, ?_⟩)
  | (with_reducible refine x_not ?_) | (with_reducible refine x_and ?_) | (with_reducible refine x_or ?_) | (with_reducible refine x_tB ?_) | (with_reducible refine x_andV ?_) | (with_reducible refine x_notV ?_) | (with_reducible refine x_chain ?_) | (with_reducible refine x_chn ?_) | (with_reducible refine x_link ?_) | (with_reducible refine x_last ?_)
  | ((with_reducible refine x_eq ?s ?_); (case s => rfl)) | ((with_reducible refine x_ne ?s ?_); (case s => rfl))
  | (with_reducible refine x_tup ?_) | (with_reducible refine x_lst ?_) | (with_reducible refine x_disp (Nat.le_of_ble_eq_true rfl) ?_)
  | (with_reducible refine x_retN ?_) | (with_reducible refine x_drop ?_) | (with_reducible refine x_next ?_) | (with_reducible refine x_bk ?_) | (with_reducible refine x_ct ?_) | (with_reducible refine x_sfld ?_)
  | ((with_reducible refine' x_gtup ?h ?e ?q); (case h => walk_at "fx"); (case e => rfl)) | ((with_reducible refine' x_gunl ?h ?e ?q); (case h => walk_at "fx"); (case e => rfl))
  | (with_reducible refine x_gcons ?_) | (with_reducible refine x_gnil ?_) | (with_reducible refine x_gsub ?_)
  | (with_reducible refine x_for ?_) | (with_reducible refine x_lc ?_) | (with_reducible refine x_yes ?_) | (with_reducible refine x_iList ?_) | (with_reducible refine x_iTup ?_) | (with_reducible refine x_iSeq ?_) | (with_reducible refine x_iZip ?_) | (with_reducible refine x_iEnum ?_) | (with_reducible refine x_iRng1 ?_)
  | ((with_reducible refine' x_itL ?h ?q); (case h => walk_at "fx")) | ((with_reducible refine' x_itT ?h ?q); (case h => walk_at "fx")) | ((with_reducible refine' x_itSL ?h ?q); (case h => walk_at "fx")) | ((with_reducible refine' x_itST ?h ?q); (case h => walk_at "fx"))
  | ((with_reducible refine' x_itZ ?h1 ?h2 ?q); (case h1 => walk_at "fx"); (case h2 => walk_at "fx")) | ((with_reducible refine' x_itE ?h ?q); (case h => walk_at "fx"))
  | ((with_reducible refine' x_lenL ?h ?q); (case h => walk_at "fx")) | ((with_reducible refine' x_lenT ?h ?q); (case h => walk_at "fx"))
  | ((with_reducible refine' x_lofL ?h ?q); (case h => walk_at "fx")) | ((with_reducible refine' x_lofT ?h ?q); (case h => walk_at "fx"))
  | (with_reducible refine x_aug ?_) | (with_reducible refine x_ipI ?_) | (with_reducible refine x_meth ?_) | (with_reducible refine x_makeK ?_)
  | (with_reducible refine iteT ?_) | (with_reducible refine iteF ?_) | (with_reducible refine ifNT' ?_) | (with_reducible refine ifNF' ?_))
local macro_rules | `(tactic| walk_at "go") => `(tactic| repeat walk_at "step")
section
variable {P : Program} {w : World} {K : PySem.W.Frag} {mg : Str → Option Value} {base : Heap}
/-- hands back v; all that was tracked stands -/
def Tells (H : Hp) (Q : VK) (v : V) : Prop := ∀ H', Same H H' → Q v H'
theorem Tells.ahead {H H1 : Hp} {Q : VK} {v : V} (g : Tells H Q v) (s : Same H H1) : Tells H1 Q v := fun H' s' => g H' (s.trans s')
theorem flat_int (i : Int) : flat (.int i) = true := rfl
theorem flat_bool (b : Bool) : flat (.bool b) = true := rfl
theorem dp_con {H : Hp} {v : V} {c : List Pt} (h : Dp K H v (conD c)) : ∃ a xs, v = .ref a ∧ SqL K H a xs ∧ DpAll K H xs (c.map ptD) := dp_lst h
theorem dp_out {H : Hp} {v : V} {o : Outl} (h : Dp K H v (outD o)) : ∃ a xs, v = .ref a ∧ SqL K H a xs ∧ DpAll K H xs (o.map conD) := dp_lst h
/-! ### count_points -/
def spCount (K : PySem.W.Frag) : Sp := fun vs H Q _ => ∃ (vo : V) (o : Outl), vs = [vo] ∧ Dp K H vo (outD o) ∧ o.length ≤ 1000 ∧ Tells H Q (.int (points o))
abbrev sc_count_pointsN : List Str := ["outline", "contour"]
theorem sc_count_points : FnScope sc_count_pointsN ["outline"] (defScope s_count_points) := ⟨rfl, rfl, rfl, by decide +kernel, rfl, by decide +kernel, by decide +kernel⟩
theorem k_count_points (T : Txt K mg) : Kept P w K mg base CX0 1 "count_points" ["outline"] [] (spCount K) := by
  obtain ⟨fd, F⟩ := T.f_count_points
  refine ⟨_, fd, [], T.g_count_points, F.kp, F.bindsN (ps := ["outline"]) (fun _ _ _ _ _ _ us hl => match us, hl with | [_], _ => rfl), .nil, ?_⟩
  refine ok0 F sc_count_points (fun vs H Q E h => ?_) (fun cdv A outer s H vs Q E hr h => ?_)
  · obtain ⟨vo, o, rfl, _⟩ := h
    rfl
  refine ⟨_, (pss_one (ps_ret (pe_callB (cr_sum rfl) (by rfl) (Txt.n_sum T) (by decide +kernel) (pa_cons (pe_lc (own := [("contour", 1)]) (tt := tYes) rfl sc_count_points.nd (pi_list (pv 0)) (blkOk_by (N := sc_count_pointsN) (sc := (defScope s_count_points)) (by decide +kernel)) (fun _ _ _ _ _ => (pg_name (i := 1) sc_count_points.nd rfl (.inl rfl))) (fun _ _ _ _ _ => pts_nil) (fun _ _ _ _ _ => (pe_callB (lenK K rfl) (by rfl) (Txt.n_len T) PySem.boot_len (pa_cons (pv 1) pa_nil)))) pa_nil)))), ?_⟩
  obtain ⟨vo, o, rfl, d, lo, g⟩ := h
  obtain ⟨a, xs, rfl, ha, hx⟩ := dp_out d
  have lx := dps_mlen hx
  walk_at "go"
  intro L nL
  refine lc_flat (K := K) ((o.map fun c => (c.length : Int)).map PyData.int) (walk_list ha) (by rw [List.length_map, List.length_map, lx]) (by omega) (flats_map flat_int _) nL (fun i x H2 lt s2 e P cl => ?_) (fun H2 s2 d => ?_)
  · obtain ⟨c, m, dc⟩ := dps_map hx e
    obtain ⟨b, ys, rfl, hb, hy⟩ := dp_con (s2.dp dc)
    walk_at "go"
    refine ⟨rfl, ?_⟩
    walk_at "go"
    refine cl _ _ _ (Same.refl _) ?_ (.int _)
    rw [List.getElem?_map, List.getElem?_map, m, dps_mlen hy]
    rfl
  · obtain ⟨b, e, hb⟩ := dp_ints d
    cases e
    walk_at "go"
    refine ⟨_, _, rfl, hb, ?_⟩
    walk_at "go"
    exact g _ s2
/-! ### is_near, is_coordinate -/
def spNearI : Sp := fun vs H Q _ => ∃ n : Int, vs = [.int n] ∧ Q (.bl (decide (near n))) H
theorem near_lo {n : Int} (h : ¬ -16384 ≤ n) : decide (near n) = false := decide_eq_false fun z => h z.1
theorem near_hi {n : Int} (h : -16384 ≤ n) : decide (near n) = decide (n ≤ 16384) := by
  by_cases c : n ≤ 16384
  · rw [decide_eq_true c, decide_eq_true ⟨h, c⟩]
  · rw [decide_eq_false c, decide_eq_false fun z => c z.2]
abbrev sc_is_nearN : List Str := ["number"]
theorem sc_is_near : FnScope sc_is_nearN ["number"] (defScope s_is_near) := ⟨rfl, rfl, rfl, by decide +kernel, rfl, by decide +kernel, by decide +kernel⟩
theorem k_is_near (T : Txt K mg) : Kept P w K mg base CX0 1 "is_near" ["number"] [] (spNearI) := by
  obtain ⟨fd, F⟩ := T.f_is_near
  refine ⟨_, fd, [], T.g_is_near, F.kp, F.bindsN (ps := ["number"]) (fun _ _ _ _ _ _ us hl => match us, hl with | [_], _ => rfl), .nil, ?_⟩
  refine ok0 F sc_is_near (fun vs H Q E h => ?_) (fun cdv A outer s H vs Q E hr h => ?_)
  · obtain ⟨n, rfl, _⟩ := h
    rfl
  refine ⟨_, (pss_one (ps_ret (pe_chain op_le op_le (pe_un un_neg (pe_gi (Txt.i_FARTHEST T) (by rfl))) (pv 0) (pe_gi (Txt.i_FARTHEST T) (by rfl))))), ?_⟩
  obtain ⟨n, rfl, g⟩ := h
  walk_at "go"
  refine ifD (fun c => ?_) (fun c => ?_)
  · rw [near_hi c] at g
    walk_at "go"
    exact g
  · rw [near_lo c] at g
    walk_at "go"
    exact g
abbrev sc_is_coordinateN : List Str := ["number"]
theorem sc_is_coordinate : FnScope sc_is_coordinateN ["number"] (defScope s_is_coordinate) := ⟨rfl, rfl, rfl, by decide +kernel, rfl, by decide +kernel, by decide +kernel⟩
theorem k_is_coordinate (T : Txt K mg) : Kept P w K mg base CX0 1 "is_coordinate" ["number"] [] (spNearI) := by
  obtain ⟨fd, F⟩ := T.f_is_coordinate
  refine ⟨_, fd, [], T.g_is_coordinate, F.kp, F.bindsN (ps := ["number"]) (fun _ _ _ _ _ _ us hl => match us, hl with | [_], _ => rfl), .nil, ?_⟩
  refine ok0 F sc_is_coordinate (fun vs H Q E h => ?_) (fun cdv A outer s H vs Q E hr h => ?_)
  · obtain ⟨n, rfl, _⟩ := h
    rfl
  refine ⟨_, (pss_one (ps_ret (pe_chain op_le op_le (pe_un un_neg (pe_gi (Txt.i_MOST_ADVANCE T) (by rfl))) (pv 0) (pe_gi (Txt.i_MOST_ADVANCE T) (by rfl))))), ?_⟩
  obtain ⟨n, rfl, g⟩ := h
  walk_at "go"
  refine ifD (fun c => ?_) (fun c => ?_)
  · rw [near_hi c] at g
    walk_at "go"
    exact g
  · rw [near_lo c] at g
    walk_at "go"
    exact g
/-! ### is_proper -/
structure OutOk (o : Outl) : Prop where
  cs : o.length ≤ 3
  c2 : ∀ c ∈ o, 2 ≤ c.length ∧ c.length ≤ 8
  pt : ∀ c ∈ o, ∀ p ∈ c, near p.1 ∧ near p.2.1
theorem points_le : ∀ (o : Outl), (∀ c ∈ o, 2 ≤ c.length ∧ c.length ≤ 8) → points o ≤ 8 * o.length
  | [], _ => by decide
  | c :: o, h => by
    have h1 := h c (List.mem_cons_self ..)
    have h2 := points_le o fun x hx => h x (List.mem_cons_of_mem _ hx)
    unfold points at h2 ⊢
    rw [List.map_cons, List.sum_cons, List.length_cons]
    push_cast
    omega
def spProper (K : PySem.W.Frag) : Sp := fun vs H Q _ => ∃ (vo : V) (o : Outl), vs = [vo] ∧ Dp K H vo (outD o) ∧ OutOk o ∧ Tells H Q (.bl true)
theorem dp_point {H : Hp} {v : V} {p : Pt} (h : Dp K H v (ptD p)) : ∃ a, v = .ref a ∧ SqT K H a [.int p.1, .int p.2.1, .bl p.2.2] := dp_pt h
abbrev sc_is_properN : List Str := ["outline", "contour", "x", "y", "on"]
theorem sc_is_proper : FnScope sc_is_properN ["outline"] (defScope s_is_proper) := ⟨rfl, rfl, rfl, by decide +kernel, rfl, by decide +kernel, by decide +kernel⟩
theorem k_is_proper (T : Txt K mg) : Kept P w K mg base CX0 2 "is_proper" ["outline"] [] (spProper K) := by
  obtain ⟨fd, F⟩ := T.f_is_proper
  refine ⟨_, fd, [], T.g_is_proper, F.kp, F.bindsN (ps := ["outline"]) (fun _ _ _ _ _ _ us hl => match us, hl with | [_], _ => rfl), .nil, ?_⟩
  refine ok0 F sc_is_proper (fun vs H Q E h => ?_) (fun cdv A outer s H vs Q E hr h => ?_)
  · obtain ⟨vo, o, rfl, _⟩ := h
    rfl
  refine ⟨_, (pss_cons (ps_if (PW.pt (pw_or (pt_cmpR op_gt (pe_callB (lenK K rfl) (by rfl) (Txt.n_len T) PySem.boot_len (pa_cons (pv 0) pa_nil)) (pe_gi (Txt.i_MOST_CONTOURS T) (by rfl)) (nomark _)) (pw_or1 (pt_cmpR op_gt (pe_kc (k_count_points T) (by decide) hr (by rfl) pass0 (pa_cons (pv 0) pa_nil)) (pe_gi (Txt.i_MOST_POINTS T) (by rfl)) (nomark _))))) (pss_one (ps_ret pe_bl)) pss_nil)
      (pss_cons (ps_for PassesOwn.never rfl (pi_list (pv 0)) (pg_name (i := 1) sc_is_proper.nd rfl (.inl rfl)) (pss_one (ps_if (PW.pt (pw_or (pt_cmpR op_lt (pe_callB (lenK K rfl) (by rfl) (Txt.n_len T) PySem.boot_len (pa_cons (pv 1) pa_nil)) pe_int (nomark _)) (pw_or1 (pt_not (pt_val (pe_callB (cr_all rfl) (by rfl) (Txt.n_all T) (by decide +kernel) (pa_cons (pe_lc (own := [("x", 2), ("y", 3), ("on", 4)]) (tt := tYes) rfl sc_is_proper.nd (pi_list (pv 1)) (blkOk_by (N := sc_is_properN) (sc := (defScope s_is_proper)) (by decide +kernel)) (fun _ _ _ _ _ => (pg_t3 K rfl (i := 2) (j := 3) (l := 4) rfl sc_is_proper.nd rfl rfl rfl (.inl rfl) (.inl rfl) (.inl rfl) (.inr rfl) (.inr rfl) (.inr rfl))) (fun _ _ _ _ _ => pts_nil) (fun _ _ _ _ _ => (pe_and (pe_kc (k_is_near T) (by decide) hr (by rfl) pass0 (pa_cons (pv 2) pa_nil)) (pe_one (pe_kc (k_is_near T) (by decide) hr (by rfl) pass0 (pa_cons (pv 3) pa_nil)))))) pa_nil))))))) (pss_one (ps_ret pe_bl)) pss_nil)))
      (pss_one (ps_ret pe_bl)))), ?_⟩
  obtain ⟨vo, o, rfl, d, ok, g⟩ := h
  obtain ⟨a, xs, rfl, ha, hx⟩ := dp_out d
  have lx := dps_mlen hx
  have c3 := ok.cs
  have pl := points_le o ok.c2
  walk_at "go"
  refine ifF (by omega) ?_
  walk_at "go"
  refine ⟨_, o, rfl, d, by omega, fun H1 s1 => ?_⟩
  walk_at "go"
  refine ifF (by omega) ?_
  have ha1 := s1.seq ha
  walk_at "go"
  refine for_at xs.length (fun i σ' H' => Same H1 H' ∧ ∃ y, σ' = [some (.ref a), y, none, none, none]) ⟨Same.refl _, _, rfl⟩ (fun i σ' H' lt F => ?_) (fun σ' H' F => ?_)
  · obtain ⟨s, y, rfl⟩ := F
    have Z := walk_list ha1
    refine ⟨Z.go _ _ s lt, fun x H2 yy => ?_⟩
    obtain ⟨s2, e⟩ := Z.yld _ _ _ _ s lt yy
    obtain ⟨c, m, dc⟩ := dps_map hx e
    have mc := List.mem_of_getElem? m
    obtain ⟨k1, k2⟩ := ok.c2 c mc
    have sA := (s1.trans s).trans s2
    obtain ⟨b, ys, rfl, hb, hy⟩ := dp_con (sA.dp dc)
    have ly := dps_mlen hy
    walk_at "go"
    refine ifF (by omega) ?_
    walk_at "go"
    intro L nL
    refine lc_flat (K := K) ((c.map fun _ => true).map PyData.bool) (walk_list hb) (by rw [List.length_map, List.length_map, ly]) (by omega) (flats_map flat_bool _) nL (fun i x H4 lt s4 e P cl => ?_) (fun H4 s4 d => ?_)
    · obtain ⟨p, mp, dpt⟩ := dps_map hy e
      obtain ⟨n1, n2⟩ := ok.pt c mc p (List.mem_of_getElem? mp)
      obtain ⟨t, rfl, ht⟩ := dp_point (s4.dp dpt)
      walk_at "go"
      refine ⟨rfl, ?_⟩
      walk_at "go"
      refine ⟨_, rfl, ?_⟩
      rw [decide_eq_true n1]
      walk_at "go"
      refine ⟨_, rfl, ?_⟩
      rw [decide_eq_true n2]
      refine cl _ _ _ (Same.refl _) ?_ (.bl _)
      rw [List.getElem?_map, List.getElem?_map, mp]
      rfl
    · obtain ⟨b2, e, hb2⟩ := dp_bls d
      cases e
      walk_at "go"
      refine ⟨_, _, rfl, hb2, ?_⟩
      have al : (c.map fun _ => true).all id = true := by rw [List.all_map]; simp
      rw [al]
      walk_at "go"
      exact ⟨(s.trans s2).trans s4, _, rfl⟩
  · obtain ⟨s, y, rfl⟩ := F
    refine ⟨(walk_list ha1).stop _ s, ?_⟩
    walk_at "go"
    exact g _ (s1.trans s)
/-! ### hint_fault, chars_fault, feature_fault: nothing there -/
def spNil1 (K : PySem.W.Frag) : Sp := fun vs H Q _ => ∃ vi : V, vs = [vi] ∧ Dp K H vi (.list []) ∧ Tells H Q .non
def spNil2 (K : PySem.W.Frag) : Sp := fun vs H Q _ => ∃ vi vn : V, vs = [vi, vn] ∧ Dp K H vi (.list []) ∧ Tells H Q .non
abbrev sc_hint_faultN : List Str := ["instructions", "word", "number"]
theorem sc_hint_fault : FnScope sc_hint_faultN ["instructions"] (defScope s_hint_fault) := ⟨rfl, rfl, rfl, by decide +kernel, rfl, by decide +kernel, by decide +kernel⟩
theorem k_hint_fault (T : Txt K mg) : Kept P w K mg base CX0 1 "hint_fault" ["instructions"] [] (spNil1 K) := by
  obtain ⟨fd, F⟩ := T.f_hint_fault
  refine ⟨_, fd, [], T.g_hint_fault, F.kp, F.bindsN (ps := ["instructions"]) (fun _ _ _ _ _ _ us hl => match us, hl with | [_], _ => rfl), .nil, ?_⟩
  refine ok0 F sc_hint_fault (fun vs H Q E h => ?_) (fun cdv A outer s H vs Q E hr h => ?_)
  · obtain ⟨vi, rfl, _⟩ := h
    rfl
  refine ⟨_, (pss_cons (ps_for PassesOwn.never rfl (pi_list (pv 0)) (g := gNo) pg_no (tb := tNever) pss_never)
      (pss_one (ps_ret pe_non))), ?_⟩
  obtain ⟨vi, rfl, d, g⟩ := h
  obtain ⟨a, rfl, ha⟩ := dp_nilL d
  walk_at "go"
  refine for_noneL ha ?_
  walk_at "go"
  exact g _ (Same.refl _)
abbrev sc_chars_faultN : List Str := ["chars", "glyph_count", "before", "code", "glyph"]
theorem sc_chars_fault : FnScope sc_chars_faultN ["chars", "glyph_count"] (defScope s_chars_fault) := ⟨rfl, rfl, rfl, by decide +kernel, rfl, by decide +kernel, by decide +kernel⟩
theorem k_chars_fault (T : Txt K mg) : Kept P w K mg base CX0 1 "chars_fault" ["chars", "glyph_count"] [] (spNil2 K) := by
  obtain ⟨fd, F⟩ := T.f_chars_fault
  refine ⟨_, fd, [], T.g_chars_fault, F.kp, F.bindsN (ps := ["chars", "glyph_count"]) (fun _ _ _ _ _ _ us hl => match us, hl with | [_, _], _ => rfl), .nil, ?_⟩
  refine ok0 F sc_chars_fault (fun vs H Q E h => ?_) (fun cdv A outer s H vs Q E hr h => ?_)
  · obtain ⟨vi, vn, rfl, _⟩ := h
    rfl
  refine ⟨_, (pss_cons (ps_set (i := 2) sc_chars_fault.nd rfl (.inl rfl) (pe_un un_neg pe_int))
      (pss_cons (ps_for PassesOwn.never rfl (pi_list (pv 0)) (g := gNo) pg_no (tb := tNever) pss_never)
      (pss_one (ps_ret pe_non)))), ?_⟩
  obtain ⟨vi, vn, rfl, d, g⟩ := h
  obtain ⟨a, rfl, ha⟩ := dp_nilL d
  walk_at "go"
  refine for_noneL ha ?_
  walk_at "go"
  exact g _ (Same.refl _)
abbrev sc_feature_faultN : List Str := ["features", "lookup_count", "names", "name", "numbers", "index", "number"]
theorem sc_feature_fault : FnScope sc_feature_faultN ["features", "lookup_count"] (defScope s_feature_fault) := ⟨rfl, rfl, rfl, by decide +kernel, rfl, by decide +kernel, by decide +kernel⟩
theorem k_feature_fault (T : Txt K mg) : Kept P w K mg base CX0 1 "feature_fault" ["features", "lookup_count"] [] (spNil2 K) := by
  obtain ⟨fd, F⟩ := T.f_feature_fault
  refine ⟨_, fd, [], T.g_feature_fault, F.kp, F.bindsN (ps := ["features", "lookup_count"]) (fun _ _ _ _ _ _ us hl => match us, hl with | [_, _], _ => rfl), .nil, ?_⟩
  refine ok0 F sc_feature_fault (fun vs H Q E h => ?_) (fun cdv A outer s H vs Q E hr h => ?_)
  · obtain ⟨vi, vn, rfl, _⟩ := h
    rfl
  refine ⟨_, (pss_cons (ps_set (i := 2) sc_feature_fault.nd rfl (.inl rfl) (pe_lst pa_nil))
      (pss_cons (ps_for PassesOwn.never rfl (pi_list (pv 0)) (g := gNo) pg_no (tb := tNever) pss_never)
      (pss_one (ps_ret pe_non)))), ?_⟩
  obtain ⟨vi, vn, rfl, d, g⟩ := h
  obtain ⟨a, rfl, ha⟩ := dp_nilL d
  walk_at "go"
  intro p H1 s1 n1 e1
  have ha1 := s1.seq ha
  walk_at "go"
  refine for_noneL ha1 ?_
  walk_at "go"
  exact g _ s1
end
end Fl
set_option Elab.async false
set_option linter.all false
set_option maxRecDepth 100000
set_option maxHeartbeats 4000000
/-! What a font is asked, part two. -/
namespace Fl
open PySem PySem.Spec PyProof.Rows L2
local macro_rules | `(tactic| walk_at "fx") => `(tactic| first | assumption | solve_by_elim [seqT, Same.trans, Same.seq])
local macro_rules | `(tactic| walk_at "cl") => `(tactic| first | assumption | exact Txt.c_Glyph (by assumption) | exact Txt.c_Font (by assumption) | exact Txt.c_Moves (by assumption))
local macro_rules | `(tactic| walk_at "na") => `(tactic| first | assumption | exact Txt.a_Glyph_advance (by assumption) | exact Txt.a_Glyph_outline (by assumption) | exact Txt.a_Glyph_parts (by assumption) | exact Txt.a_Glyph_anchors (by assumption) | exact Txt.a_Glyph_mark (by assumption) | exact Txt.a_Glyph_deltas (by assumption) | exact Txt.a_Glyph_hint (by assumption) | exact Txt.a_Font_unit (by assumption) | exact Txt.a_Font_glyphs (by assumption) | exact Txt.a_Font_chars (by assumption) | exact Txt.a_Font_lookups (by assumption) | exact Txt.a_Font_features (by assumption) | exact Txt.a_Font_axes (by assumption) | exact Txt.a_Font_regions (by assumption) | exact Txt.a_Font_functions (by assumption) | exact Txt.a_Font_presets (by assumption) | exact Txt.a_Moves_sums (by assumption))
local macro_rules | `(tactic| walk_at "step") => `(tactic| first
  | (with_reducible refine x_c ?_)
  | ((with_reducible show tVar _ _ _ _); refine ⟨_, rfl, ?_⟩)
  | (with_reducible refine x_op ?_) | (with_reducible refine x_seq ?_) | (with_reducible refine x_nx ?_) | (with_reducible refine x_asg ?_) | (with_reducible refine x_name ?_)
  | ((with_reducible show rI0 _ _ _ _ _); refine ⟨_, _, rfl, rfl, ?_⟩)
  | (with_reducible refine x_ret ?_) | (with_reducible refine x_rt ?_) | (with_reducible refine x_ifS ?_) | (with_reducible refine x_test ?_) | (with_reducible refine x_bl ?_)
  | (with_reducible refine x_cons ?_) | (with_reducible refine x_nil ?_) | (with_reducible refine x_call ?_) | (with_reducible refine x_CB ?_)
  | ((with_reducible refine' x_ixT ?h ?e ?q); (case h => walk_at "fx"); (case e => rfl))
  | ((with_reducible refine' x_ixL ?h ?e ?q); (case h => walk_at "fx"); (case e => rfl))
  | (with_reducible refine x_fld ?_)
  | ((with_reducible refine' x_at ?h ?c ?n ?l ?q); (case h => walk_at "fx"); (case c => walk_at "cl"); (case n => walk_at "na"); (case l => rfl))
  | (with_reducible refine x_un ?_) | ((with_reducible show rU _ _ _ _); refine ⟨_, rfl, ?_⟩)
  | (with_reducible refine x_not ?_) | (with_reducible refine x_and ?_) | (with_reducible refine x_or ?_) | (with_reducible refine x_tB ?_) | (with_reducible refine x_andV ?_) | (with_reducible refine x_notV ?_) | (with_reducible refine x_chain ?_) | (with_reducible refine x_chn ?_) | (with_reducible refine x_link ?_) | (with_reducible refine x_last ?_)
  | ((with_reducible refine x_eq ?s ?_); (case s => rfl)) | ((with_reducible refine x_ne ?s ?_); (case s => rfl))
  | (with_reducible refine x_tup ?_) | (with_reducible refine x_lst ?_) | (with_reducible refine x_disp (Nat.le_of_ble_eq_true rfl) ?_)
  | (with_reducible refine x_retN ?_) | (with_reducible refine x_drop ?_) | (with_reducible refine x_next ?_) | (with_reducible refine x_bk ?_) | (with_reducible refine x_ct ?_) | (with_reducible refine x_sfld ?_)
  | ((with_reducible refine' x_gtup ?h ?e ?q); (case h => walk_at "fx"); (case e => rfl)) | ((with_reducible refine' x_gunl ?h ?e ?q); (case h => walk_at "fx"); (case e => rfl))
  | (with_reducible refine x_gcons ?_) | (with_reducible refine x_gnil ?_) | (with_reducible refine x_gsub ?_)
  | (with_reducible refine x_for ?_) | (with_reducible refine x_lc ?_) | (with_reducible refine x_yes ?_) | (with_reducible refine x_iList ?_) | (with_reducible refine x_iTup ?_) | (with_reducible refine x_iSeq ?_) | (with_reducible refine x_iZip ?_) | (with_reducible refine x_iEnum ?_) | (with_reducible refine x_iRng1 ?_)
  | ((with_reducible refine' x_itL ?h ?q); (case h => walk_at "fx")) | ((with_reducible refine' x_itT ?h ?q); (case h => walk_at "fx")) | ((with_reducible refine' x_itSL ?h ?q); (case h => walk_at "fx")) | ((with_reducible refine' x_itST ?h ?q); (case h => walk_at "fx"))
  | ((with_reducible refine' x_itZ ?h1 ?h2 ?q); (case h1 => walk_at "fx"); (case h2 => walk_at "fx")) | ((with_reducible refine' x_itE ?h ?q); (case h => walk_at "fx"))
  | ((with_reducible refine' x_lenL ?h ?q); (case h => walk_at "fx")) | ((with_reducible refine' x_lenT ?h ?q); (case h => walk_at "fx"))
  | ((with_reducible refine' x_lofL ?h ?q); (case h => walk_at "fx")) | ((with_reducible refine' x_lofT ?h ?q); (case h => walk_at "fx"))
  | (with_reducible refine x_aug ?_) | (with_reducible refine x_ipI ?_) | (with_reducible refine x_meth ?_) | (with_reducible refine x_makeK ?_)
  | (with_reducible refine iteT ?_) | (with_reducible refine iteF ?_) | (with_reducible refine ifNT' ?_) | (with_reducible refine ifNF' ?_))
local macro_rules | `(tactic| walk_at "go") => `(tactic| repeat walk_at "step")
section
variable {P : Program} {w : World} {K : PySem.W.Frag} {mg : Str → Option Value} {base : Heap}
theorem dp_t4' {H : Hp} {v : V} {t : Int × Int × Int × Int} (h : Dp K H v (t4D t)) : ∃ a, v = .ref a ∧ SqT K H a [.int t.1, .int t.2.1, .int t.2.2.1, .int t.2.2.2] := by
  obtain ⟨a, xs, rfl, h1, h2⟩ := dp_tup h
  obtain ⟨x, r, rfl, hx, h2⟩ := dps_cons h2
  obtain ⟨y, r, rfl, hy, h2⟩ := dps_cons h2
  obtain ⟨z, r, rfl, hz, h2⟩ := dps_cons h2
  obtain ⟨u, r, rfl, hu, h2⟩ := dps_cons h2
  rw [dps_nil h2, dp_int hx, dp_int hy, dp_int hz, dp_int hu] at h1
  exact ⟨a, rfl, h1⟩
theorem GOk.out {n : Nat} {g : Gd} (h : GOk n g) : OutOk g.out := ⟨h.cs, h.c2, h.pt⟩
/-! ### glyph_fault -/
def spGlyphF (K : PySem.W.Frag) : Sp := fun vs H Q _ => ∃ (vg : V) (m n : Int) (g : Gd) (k : Nat), vs = [vg, .int m, .int n] ∧ GlyphAt K H vg g ∧ GOk k g ∧ n = k ∧ Tells H Q .non
abbrev sc_glyph_faultN : List Str := ["glyph", "glyph_count", "region_count", "number", "x", "y", "kind", "points", "region", "point"]
theorem sc_glyph_fault : FnScope sc_glyph_faultN ["glyph", "glyph_count", "region_count"] (defScope s_glyph_fault) := ⟨rfl, rfl, rfl, by decide +kernel, rfl, by decide +kernel, by decide +kernel⟩
theorem k_glyph_fault (T : Txt K mg) : Kept P w K mg base CX0 3 "glyph_fault" ["glyph", "glyph_count", "region_count"] [] (spGlyphF K) := by
  obtain ⟨fd, F⟩ := T.f_glyph_fault
  refine ⟨_, fd, [], T.g_glyph_fault, F.kp, F.bindsN (ps := ["glyph", "glyph_count", "region_count"]) (fun _ _ _ _ _ _ us hl => match us, hl with | [_, _, _], _ => rfl), .nil, ?_⟩
  refine ok0 F sc_glyph_fault (fun vs H Q E h => ?_) (fun cdv A outer s H vs Q E hr h => ?_)
  · obtain ⟨vg, m, n, g, kk, rfl, _⟩ := h
    rfl
  refine ⟨_, (pss_cons (ps_if (pt_not (pt_chn pe_int (ptc_link op_le (pe_fld (pv 0) rfl) (ptc_last op_le (pe_gi (Txt.i_MOST_ADVANCE T) (by rfl)))))) (pss_one (ps_ret pe_str)) pss_nil)
      (pss_cons (ps_if (pt_not (pt_val (pe_kc (k_is_proper T) (by decide) hr (by rfl) pass0 (pa_cons (pe_fld (pv 0) rfl) pa_nil)))) (pss_one (ps_ret pe_str)) pss_nil)
      (pss_cons (ps_for PassesOwn.never rfl (pi_list (pe_fld (pv 0) rfl)) (g := gNo) pg_no (tb := tNever) pss_never)
      (pss_cons (ps_for PassesOwn.never rfl (pi_list (pe_fld (pv 0) rfl)) (g := gNo) pg_no (tb := tNever) pss_never)
      (pss_cons (ps_set (i := 7) sc_glyph_fault.nd rfl (.inl rfl) (pe_kc (k_count_points T) (by decide) hr (by rfl) pass0 (pa_cons (pe_fld (pv 0) rfl) pa_nil)))
      (pss_cons (ps_for PassesOwn.never rfl (pi_list (pe_fld (pv 0) rfl)) (pg_tup rfl (pgs_cons (pg_name (i := 8) sc_glyph_fault.nd rfl (.inl rfl)) (pgs_cons (pg_name (i := 9) sc_glyph_fault.nd rfl (.inl rfl)) (pgs_cons (pg_name (i := 4) sc_glyph_fault.nd rfl (.inl rfl)) (pgs_cons (pg_name (i := 5) sc_glyph_fault.nd rfl (.inl rfl)) pgs_nil))))) (pss_cons (ps_if (PW.pt (pw_or (pt_not (pt_chn pe_int (ptc_link op_le (pv 8) (ptc_last op_lt (pv 2))))) (pw_or1 (pt_not (pt_chn (pe_un un_neg pe_int) (ptc_link op_le (pv 9) (ptc_last op_lt (pv 7)))))))) (pss_one (ps_ret pe_str)) pss_nil)
      (pss_one (ps_if (PW.pt (pw_or (pt_not (pt_val (pe_kc (k_is_coordinate T) (by decide) hr (by rfl) pass0 (pa_cons (pv 4) pa_nil)))) (pw_or1 (pt_not (pt_val (pe_kc (k_is_coordinate T) (by decide) hr (by rfl) pass0 (pa_cons (pv 5) pa_nil))))))) (pss_one (ps_ret pe_str)) pss_nil))))
      (pss_one (ps_ret (pe_kc (k_hint_fault T) (by decide) hr (by rfl) pass0 (pa_cons (pe_fld (pv 0) rfl) pa_nil)))))))))), ?_⟩
  obtain ⟨vg, m, n, gd, kk, rfl, hg, ok, hn, g⟩ := h
  obtain ⟨a, dx, vo, vp, va, vd, vh, rfl, h0, h1, h2, h3, h4, h5⟩ := hg
  have a0 := ok.a0
  have a1 := ok.a1
  walk_at "go"
  refine ifT a0 ?_
  walk_at "go"
  refine ifNF a1 ?_
  walk_at "go"
  refine ⟨_, gd.out, rfl, h1, ok.out, fun H1 s1 => ?_⟩
  walk_at "go"
  have h0 := s1 _ _ h0
  obtain ⟨pp, rfl, hp⟩ := dp_nilL (s1.dp h2)
  obtain ⟨pa, rfl, ha⟩ := dp_nilL (s1.dp h3)
  obtain ⟨pd, xds, rfl, hd, hds⟩ := dp_lst (s1.dp h4)
  walk_at "go"
  refine for_noneL hp ?_
  walk_at "go"
  refine for_noneL ha ?_
  walk_at "go"
  refine ⟨_, gd.out, rfl, s1.dp h1, by have := ok.cs; omega, fun H2 s2 => ?_⟩
  have h0 := s2 _ _ h0
  have hd := s2.seq hd
  walk_at "go"
  refine for_at xds.length (fun i σ' H' => Same H2 H' ∧ ∃ y1 y2 y3 y4 y5 y6, σ' = [some (.ref a), some (.int m), some (.int n), y1, y2, y3, y4, some (.int (points gd.out)), y5, y6]) ⟨Same.refl _, _, _, _, _, _, _, rfl⟩ (fun i σ' H' lt F => ?_) (fun σ' H' F => ?_)
  · obtain ⟨s, y1, y2, y3, y4, y5, y6, rfl⟩ := F
    have Z := walk_list hd
    refine ⟨Z.go _ _ s lt, fun x H3 yy => ?_⟩
    obtain ⟨s3, e⟩ := Z.yld _ _ _ _ s lt yy
    obtain ⟨d, md, dd⟩ := dps_map hds e
    obtain ⟨q1, q2, q3, q4, q5, q6⟩ := ok.dl d (List.mem_of_getElem? md)
    obtain ⟨t, rfl, ht⟩ := dp_t4' (((s2.trans s).trans s3).dp dd)
    walk_at "go"
    refine ifT q1 ?_
    walk_at "go"
    refine ifNF (by omega) ?_
    walk_at "go"
    refine ifT q3 ?_
    walk_at "go"
    refine ifNF q4 ?_
    walk_at "go"
    refine ⟨_, rfl, ?_⟩
    rw [decide_eq_true q5]
    walk_at "go"
    refine ⟨_, rfl, ?_⟩
    rw [decide_eq_true q6]
    walk_at "go"
    exact ⟨s.trans s3, _, _, _, _, _, _, rfl⟩
  · obtain ⟨s, y1, y2, y3, y4, y5, y6, rfl⟩ := F
    refine ⟨(walk_list hd).stop _ s, ?_⟩
    have h0 := s _ _ h0
    walk_at "go"
    exact ⟨_, rfl, ((s1.trans s2).trans s).dp h5, g.ahead ((s1.trans s2).trans s)⟩
/-! ### depths, parts_fault -/
def spDepths (K : PySem.W.Frag) : Sp := fun vs H Q _ => ∃ (a : Addr) (gvs : List V) (gs : List Gd), vs = [.ref a] ∧ SqL K H a gvs ∧ Paired (GlyphAt K H) gvs gs ∧ 1 ≤ gs.length ∧ gs.length ≤ 3 ∧ Gives K H Q (.list (gs.map fun _ => .int 0))
theorem pair_at' {α β : Type} {F : α → β → Prop} : ∀ {l : List α} {m : List β} {i : Nat} {a : α}, Paired F l m → l[i]? = some a → ∃ b, m[i]? = some b ∧ F a b
  | _, _, _, _, .nil, e => by simp at e
  | _, _, 0, _, .cons r _, e => by simp at e; subst e; exact ⟨_, rfl, r⟩
  | _, _, i + 1, b, .cons _ t, e => by
    obtain ⟨a, h1, h2⟩ := pair_at' (i := i) (a := b) t (by simpa using e)
    exact ⟨a, by simpa using h1, h2⟩
theorem rep_flat (n : Nat) (x : V) : (List.replicate n [x]).flatten = List.replicate n x := by
  induction n with
  | zero => rfl
  | succ n ih => rw [List.replicate_succ, List.flatten_cons, ih, List.replicate_succ]; rfl
theorem zeros (l : List Gd) : (l.map fun _ => PyData.int 0) = (l.map fun _ => (0 : Int)).map PyData.int := by rw [List.map_map]; rfl
theorem dps_rep {H : Hp} : ∀ l : List Gd, DpAll K H (List.replicate l.length (V.int 0)) (l.map fun _ => PyData.int 0)
  | [] => .nil
  | _ :: l => .cons (.int 0) (dps_rep l)
abbrev sc_depthsN : List Str := ["glyphs", "found", "_", "glyph", "number", "x", "y"]
theorem sc_depths : FnScope sc_depthsN ["glyphs"] (defScope s_depths) := ⟨rfl, rfl, rfl, by decide +kernel, rfl, by decide +kernel, by decide +kernel⟩
theorem k_depths (T : Txt K mg) : Kept P w K mg base CX0 1 "depths" ["glyphs"] [] (spDepths K) := by
  obtain ⟨fd, F⟩ := T.f_depths
  refine ⟨_, fd, [], T.g_depths, F.kp, F.bindsN (ps := ["glyphs"]) (fun _ _ _ _ _ _ us hl => match us, hl with | [_], _ => rfl), .nil, ?_⟩
  refine ok0 F sc_depths (fun vs H Q E h => ?_) (fun cdv A outer s H vs Q E hr h => ?_)
  · obtain ⟨a, gvs, gs, rfl, _⟩ := h
    rfl
  refine ⟨_, (pss_cons (ps_set (i := 1) sc_depths.nd rfl (.inr rfl) (pe_op op_rep (pe_lst (pa_cons pe_int pa_nil)) (pe_callB (lenK K rfl) (by rfl) (Txt.n_len T) PySem.boot_len (pa_cons (pv 0) pa_nil))))
      (pss_cons (ps_for PassesOwn.never rfl (pi_range1 (by rfl) (Txt.n_range T) (pa_cons (pe_op op_add (pe_gi (Txt.i_MOST_DEPTH T) (by rfl)) pe_int) pa_nil)) (pg_name (i := 2) sc_depths.nd rfl (.inl rfl)) (pss_one (ps_set (i := 1) sc_depths.nd rfl (.inr rfl) (pe_lc (own := [("glyph", 3)]) (tt := tYes) rfl sc_depths.nd (pi_list (pv 0)) (blkOk_by (N := sc_depthsN) (sc := (defScope s_depths)) (by decide +kernel)) (fun _ _ _ _ _ => (pg_name (i := 3) sc_depths.nd rfl (.inl rfl))) (fun _ _ _ _ _ => pts_nil) (fun _ _ _ _ _ => (pe_callB (maxK K rfl rfl) (by rfl) (Txt.n_max T) (by decide +kernel) (pa_cons (pe_op op_cat (pe_lst (pa_cons pe_int pa_nil)) (pe_lc (own := [("number", 4), ("x", 5), ("y", 6)]) (tt := tYes) rfl sc_depths.nd (itlK K rfl (fldK K rfl (pv 3) rfl)) (blkOk_by (N := sc_depthsN) (sc := (relS _ (defScope s_depths))) (by decide +kernel)) (fun _ _ _ _ _ => (pg_t3 K rfl (i := 4) (j := 5) (l := 6) rfl sc_depths.nd rfl rfl rfl (.inl rfl) (.inl rfl) (.inl rfl) (.inr rfl) (.inr rfl) (.inr rfl))) (fun _ _ _ _ _ => pts_nil) (fun _ _ _ _ _ => (pe_op op_add pe_int (pe_ix (ix_listK K rfl) (pv 1) (pv 4) (fun _ _ => rfl)))))) pa_nil)))))))
      (pss_one (ps_ret (pv 1))))), ?_⟩
  obtain ⟨a, gvs, gs, rfl, ha, hp, l1, l3, g⟩ := h
  have lg := pair_len hp
  have fz : ∀ (H' : Hp) (t : Addr) (n : Nat), n = gs.length → H' t = some (.lst (List.replicate n (.int 0))) → Dp K H' (.ref t) (.list (gs.map fun _ => .int 0)) := fun H' t n e h => by
    rw [e] at h
    exact .lst (SqL.of h) (dps_rep gs)
  walk_at "go"
  intro t H1 s1 n1 e1
  have ha1 := s1.seq ha
  walk_at "go"
  refine x_rep e1 (by omega) (by omega) (Nat.le_of_lt (small1000 (by show 1 * _ ≤ _; omega))) fun t2 H2 s2 n2 e2 => ?_
  rw [rep_flat] at e2
  have ha2 := s2.seq ha1
  walk_at "go"
  refine ⟨_, rfl, by decide, by decide, ?_⟩
  refine for_at 5 (fun i σ' H' => Same H H' ∧ ∃ v y1 y2 y3 y4 y5, σ' = [some (.ref a), some v, y1, y2, y3, y4, y5] ∧ Dp K H' v (.list (gs.map fun _ => .int 0))) ⟨s1.trans s2, _, _, _, _, _, _, rfl, fz H2 t2 _ (by omega) e2⟩ (fun i σ' H' lt F => ?_) (fun σ' H' F => ?_)
  · obtain ⟨s, v, y1, y2, y3, y4, y5, rfl, dv⟩ := F
    refine ⟨lt, fun x H3 yy => ?_⟩
    obtain ⟨rfl, rfl⟩ := yy
    have ha3 := s.seq ha
    walk_at "go"
    intro L nL
    refine lc_flat (K := K) (gs.map fun _ => .int 0) (walk_list ha3) (by rw [List.length_map]; omega) (by omega) (flats_map (fun _ => rfl) _) nL (fun i x H4 lt s4 e P cl => ?_) (fun H4 s4 d => ?_)
    · obtain ⟨gd, mg, hg⟩ := pair_at' hp e
      obtain ⟨b, dx, vo, vp, va, vd, vh, rfl, h0, h1, h2, h3, h4, h5⟩ := GlyphAt.same (s.trans s4) hg
      obtain ⟨pp, rfl, hpp⟩ := dp_nilL h2
      walk_at "go"
      refine ⟨rfl, ?_⟩
      walk_at "go"
      intro p5 H5 s5 n5 e5
      have h0 := s5 _ _ h0
      have hpp := s5.seq hpp
      walk_at "go"
      intro L2 nL2
      refine lc_flatR (K := K) [] (walk_list hpp) rfl (by decide) rfl nL2 (fun i x H4 lt => absurd lt (Nat.not_lt_zero i)) (fun H6 acc s6 hq d => ?_)
      rw [dps_nil d] at hq
      have e6 := s6 _ _ e5
      walk_at "go"
      refine x_cat e6 hq (Nat.le_of_lt (small1000 (by decide))) fun p7 H7 s7 n7 e7 => ?_
      walk_at "go"
      refine ⟨p7, [0], rfl, SqL.of e7, by decide, fun m mm _ => ?_⟩
      rw [List.mem_singleton.mp mm]
      refine cl _ _ _ ((s5.trans s6).trans s7) ?_ (.int 0)
      rw [List.getElem?_map, mg]
      rfl
    · walk_at "go"
      exact ⟨s.trans s4, _, _, _, _, _, _, rfl, d⟩
  · obtain ⟨s, v, y1, y2, y3, y4, y5, rfl, dv⟩ := F
    refine ⟨Nat.le_refl 5, ?_⟩
    walk_at "go"
    exact g _ _ s dv
def spPartsF (K : PySem.W.Frag) : Sp := fun vs H Q _ => ∃ (a : Addr) (gvs : List V) (gs : List Gd), vs = [.ref a] ∧ SqL K H a gvs ∧ Paired (GlyphAt K H) gvs gs ∧ 1 ≤ gs.length ∧ gs.length ≤ 3 ∧ Tells H Q .non
abbrev sc_parts_faultN : List Str := ["glyphs"]
theorem sc_parts_fault : FnScope sc_parts_faultN ["glyphs"] (defScope s_parts_fault) := ⟨rfl, rfl, rfl, by decide +kernel, rfl, by decide +kernel, by decide +kernel⟩
theorem k_parts_fault (T : Txt K mg) : Kept P w K mg base CX0 2 "parts_fault" ["glyphs"] [] (spPartsF K) := by
  obtain ⟨fd, F⟩ := T.f_parts_fault
  refine ⟨_, fd, [], T.g_parts_fault, F.kp, F.bindsN (ps := ["glyphs"]) (fun _ _ _ _ _ _ us hl => match us, hl with | [_], _ => rfl), .nil, ?_⟩
  refine ok0 F sc_parts_fault (fun vs H Q E h => ?_) (fun cdv A outer s H vs Q E hr h => ?_)
  · obtain ⟨a, gvs, gs, rfl, _⟩ := h
    rfl
  refine ⟨_, (pss_cons (ps_if (pt_cmpR op_gt (pe_callB (cr_max rfl) (by rfl) (Txt.n_max T) (by decide +kernel) (pa_cons (pe_kc (k_depths T) (by decide) hr (by rfl) pass0 (pa_cons (pv 0) pa_nil)) pa_nil)) (pe_gi (Txt.i_MOST_DEPTH T) (by rfl)) (nomark _)) (pss_one (ps_ret pe_str)) pss_nil)
      (pss_one (ps_ret pe_non))), ?_⟩
  obtain ⟨a, gvs, gs, rfl, ha, hp, l1, l3, g⟩ := h
  walk_at "go"
  refine ⟨a, gvs, gs, rfl, ha, hp, l1, l3, fun v H1 s1 d => ?_⟩
  rw [zeros] at d
  obtain ⟨b, rfl, hb⟩ := dp_ints d
  walk_at "go"
  refine ⟨_, _, rfl, hb, by rw [List.length_map]; omega, fun m mm _ => ?_⟩
  obtain ⟨_, _, rfl⟩ := List.mem_map.mp mm
  walk_at "go"
  exact g _ s1
/-! ### axis_fault, region_fault -/
def spAxisF (K : PySem.W.Frag) : Sp := fun vs H Q _ => ∃ (va : V) (as : List Ax), vs = [va] ∧ Dp K H va (.list (as.map t3D)) ∧ (∀ a ∈ as, AxOk a) ∧ Tells H Q .non
abbrev sc_axis_faultN : List Str := ["axes", "least", "normal", "greatest"]
theorem sc_axis_fault : FnScope sc_axis_faultN ["axes"] (defScope s_axis_fault) := ⟨rfl, rfl, rfl, by decide +kernel, rfl, by decide +kernel, by decide +kernel⟩
theorem k_axis_fault (T : Txt K mg) : Kept P w K mg base CX0 1 "axis_fault" ["axes"] [] (spAxisF K) := by
  obtain ⟨fd, F⟩ := T.f_axis_fault
  refine ⟨_, fd, [], T.g_axis_fault, F.kp, F.bindsN (ps := ["axes"]) (fun _ _ _ _ _ _ us hl => match us, hl with | [_], _ => rfl), .nil, ?_⟩
  refine ok0 F sc_axis_fault (fun vs H Q E h => ?_) (fun cdv A outer s H vs Q E hr h => ?_)
  · obtain ⟨va, as, rfl, _⟩ := h
    rfl
  refine ⟨_, (pss_cons (ps_for PassesOwn.never rfl (pi_list (pv 0)) (pg_tup rfl (pgs_cons (pg_name (i := 1) sc_axis_fault.nd rfl (.inl rfl)) (pgs_cons (pg_name (i := 2) sc_axis_fault.nd rfl (.inl rfl)) (pgs_cons (pg_name (i := 3) sc_axis_fault.nd rfl (.inl rfl)) pgs_nil)))) (pss_one (ps_if (pt_not (pt_chn (pe_un un_neg (pe_gi (Txt.i_MOST_ADVANCE T) (by rfl))) (ptc_link op_le (pv 1) (ptc_link op_le (pv 2) (ptc_link op_le (pv 3) (ptc_last op_le (pe_gi (Txt.i_MOST_ADVANCE T) (by rfl)))))))) (pss_one (ps_ret pe_str)) pss_nil)))
      (pss_one (ps_ret pe_non))), ?_⟩
  obtain ⟨va, as, rfl, d, ok, g⟩ := h
  obtain ⟨a, xs, rfl, ha, hx⟩ := dp_lst d
  walk_at "go"
  refine for_at xs.length (fun i σ' H' => Same H H' ∧ ∃ y1 y2 y3, σ' = [some (.ref a), y1, y2, y3]) ⟨Same.refl _, _, _, _, rfl⟩ (fun i σ' H' lt F => ?_) (fun σ' H' F => ?_)
  · obtain ⟨s, y1, y2, y3, rfl⟩ := F
    have Z := walk_list ha
    refine ⟨Z.go _ _ s lt, fun x H3 yy => ?_⟩
    obtain ⟨s3, e⟩ := Z.yld _ _ _ _ s lt yy
    obtain ⟨ax, md, dd⟩ := dps_map hx e
    obtain ⟨b1, b2, b3, b4⟩ := ok ax (List.mem_of_getElem? md)
    obtain ⟨t, rfl, ht⟩ := dp_t3 ((s.trans s3).dp dd)
    walk_at "go"
    refine ifT (by omega) ?_
    walk_at "go"
    refine ifT b2 ?_
    walk_at "go"
    refine ifT b3 ?_
    walk_at "go"
    refine ifNF (by omega) ?_
    walk_at "go"
    exact ⟨s.trans s3, _, _, _, rfl⟩
  · obtain ⟨s, y1, y2, y3, rfl⟩ := F
    refine ⟨(walk_list ha).stop _ s, ?_⟩
    walk_at "go"
    exact g _ s
def spRegF (K : PySem.W.Frag) : Sp := fun vs H Q _ => ∃ (va : V) (n : Nat) (rs : List (List Ax)), vs = [va, .int n] ∧ Dp K H va (.list (rs.map regD)) ∧ (∀ r ∈ rs, RegOk n r) ∧ (∀ r ∈ rs, ∀ t ∈ r, t.1 < 0 → 0 < t.2.2 → t.2.1 = 0) ∧ Tells H Q .non
abbrev sc_region_faultN : List Str := ["regions", "axis_count", "region", "start", "peak", "end"]
theorem sc_region_fault : FnScope sc_region_faultN ["regions", "axis_count"] (defScope s_region_fault) := ⟨rfl, rfl, rfl, by decide +kernel, rfl, by decide +kernel, by decide +kernel⟩
theorem k_region_fault (T : Txt K mg) : Kept P w K mg base CX0 1 "region_fault" ["regions", "axis_count"] [] (spRegF K) := by
  obtain ⟨fd, F⟩ := T.f_region_fault
  refine ⟨_, fd, [], T.g_region_fault, F.kp, F.bindsN (ps := ["regions", "axis_count"]) (fun _ _ _ _ _ _ us hl => match us, hl with | [_, _], _ => rfl), .nil, ?_⟩
  refine ok0 F sc_region_fault (fun vs H Q E h => ?_) (fun cdv A outer s H vs Q E hr h => ?_)
  · obtain ⟨va, nn, rs, rfl, _⟩ := h
    rfl
  refine ⟨_, (pss_cons (ps_for PassesOwn.never rfl (pi_list (pv 0)) (pg_name (i := 2) sc_region_fault.nd rfl (.inl rfl)) (pss_cons (ps_if (pt_cmpR op_ne (pe_callB (lenK K rfl) (by rfl) (Txt.n_len T) PySem.boot_len (pa_cons (pv 2) pa_nil)) (pv 1) (nomark _)) (pss_one (ps_ret pe_str)) pss_nil)
      (pss_one (ps_for PassesOwn.never rfl (pi_list (pv 2)) (pg_tup rfl (pgs_cons (pg_name (i := 3) sc_region_fault.nd rfl (.inl rfl)) (pgs_cons (pg_name (i := 4) sc_region_fault.nd rfl (.inl rfl)) (pgs_cons (pg_name (i := 5) sc_region_fault.nd rfl (.inl rfl)) pgs_nil)))) (pss_one (ps_if (PW.pt (pw_or (pt_not (pt_chn (pe_un un_neg pe_int) (ptc_link op_le (pv 3) (ptc_link op_le (pv 4) (ptc_link op_le (pv 5) (ptc_last op_le pe_int)))))) (pw_or1 (PW.pt (pw_and (pt_chn (pv 3) (ptc_link op_lt pe_int (ptc_last op_lt (pv 5)))) (pw_and1 (pt_cmpR op_ne (pv 4) pe_int (nomark _)))))))) (pss_one (ps_ret pe_str)) pss_nil))))))
      (pss_one (ps_ret pe_non))), ?_⟩
  obtain ⟨va, n, rs, rfl, d, ok, sp, g⟩ := h
  obtain ⟨a, xs, rfl, ha, hx⟩ := dp_lst d
  walk_at "go"
  refine for_at xs.length (fun i σ' H' => Same H H' ∧ ∃ y1 y2 y3 y4, σ' = [some (.ref a), some (.int n), y1, y2, y3, y4]) ⟨Same.refl _, _, _, _, _, rfl⟩ (fun i σ' H' lt F => ?_) (fun σ' H' F => ?_)
  · obtain ⟨s, y1, y2, y3, y4, rfl⟩ := F
    have Z := walk_list ha
    refine ⟨Z.go _ _ s lt, fun x H3 yy => ?_⟩
    obtain ⟨s3, e⟩ := Z.yld _ _ _ _ s lt yy
    obtain ⟨r, mr, dr⟩ := dps_map hx e
    have mm := List.mem_of_getElem? mr
    obtain ⟨b, ys, rfl, hb, hy⟩ := dp_lst ((s.trans s3).dp dr)
    have lb := dps_mlen hy
    have rl := (ok r mm).len
    walk_at "go"
    refine ifNF (by rw [lb, rl]) ?_
    walk_at "go"
    refine for_at ys.length (fun i σ' H' => Same H3 H' ∧ ∃ y2 y3 y4, σ' = [some (.ref a), some (.int n), some (.ref b), y2, y3, y4]) ⟨Same.refl _, _, _, _, rfl⟩ (fun i σ' H4 lt F => ?_) (fun σ' H' F => ?_)
    · obtain ⟨s4, y2, y3, y4, rfl⟩ := F
      have Z := walk_list hb
      refine ⟨Z.go _ _ s4 lt, fun x H5 yy => ?_⟩
      obtain ⟨s5, e⟩ := Z.yld _ _ _ _ s4 lt yy
      obtain ⟨t, mt, dt⟩ := dps_map hy e
      have mt := List.mem_of_getElem? mt
      obtain ⟨b1, b2, b3, b4⟩ := (ok r mm).all t mt
      have sp := sp r mm t mt
      obtain ⟨p, rfl, ht⟩ := dp_t3 ((s4.trans s5).dp dt)
      walk_at "go"
      refine ifT b1 ?_
      walk_at "go"
      refine ifT b2 ?_
      walk_at "go"
      refine ifT b3 ?_
      walk_at "go"
      refine ifNF b4 ?_
      walk_at "go"
      refine ifD (fun c1 => ?_) (fun c1 => ?_)
      · walk_at "go"
        refine ifD (fun c2 => ?_) (fun c2 => ?_)
        · have z := sp c1 c2
          walk_at "go"
          refine ifNF (by rw [z]) ?_
          walk_at "go"
          exact ⟨s4.trans s5, _, _, _, rfl⟩
        · walk_at "go"
          exact ⟨s4.trans s5, _, _, _, rfl⟩
      · walk_at "go"
        exact ⟨s4.trans s5, _, _, _, rfl⟩
    · obtain ⟨s4, y2, y3, y4, rfl⟩ := F
      refine ⟨(walk_list hb).stop _ s4, ?_⟩
      walk_at "go"
      exact ⟨(s.trans s3).trans s4, _, _, _, _, rfl⟩
  · obtain ⟨s, y1, y2, y3, y4, rfl⟩ := F
    refine ⟨(walk_list ha).stop _ s, ?_⟩
    walk_at "go"
    exact g _ s
end
end Fl
set_option Elab.async false
set_option linter.all false
set_option maxRecDepth 100000
set_option maxHeartbeats 4000000
/-! What a font is asked, part three: its methods. -/
namespace Fl
open PySem PySem.Spec PyProof.Rows L2
local macro_rules | `(tactic| walk_at "fx") => `(tactic| first | assumption | solve_by_elim [seqT, Same.trans, Same.seq])
local macro_rules | `(tactic| walk_at "cl") => `(tactic| first | assumption | exact Txt.c_Glyph (by assumption) | exact Txt.c_Font (by assumption) | exact Txt.c_Moves (by assumption))
local macro_rules | `(tactic| walk_at "na") => `(tactic| first | assumption | exact Txt.a_Glyph_advance (by assumption) | exact Txt.a_Glyph_outline (by assumption) | exact Txt.a_Glyph_parts (by assumption) | exact Txt.a_Glyph_anchors (by assumption) | exact Txt.a_Glyph_mark (by assumption) | exact Txt.a_Glyph_deltas (by assumption) | exact Txt.a_Glyph_hint (by assumption) | exact Txt.a_Font_unit (by assumption) | exact Txt.a_Font_glyphs (by assumption) | exact Txt.a_Font_chars (by assumption) | exact Txt.a_Font_lookups (by assumption) | exact Txt.a_Font_features (by assumption) | exact Txt.a_Font_axes (by assumption) | exact Txt.a_Font_regions (by assumption) | exact Txt.a_Font_functions (by assumption) | exact Txt.a_Font_presets (by assumption) | exact Txt.a_Moves_sums (by assumption))
local macro_rules | `(tactic| walk_at "step") => `(tactic| first
  | (with_reducible refine x_c ?_)
  | ((with_reducible show tVar _ _ _ _); refine ⟨_, rfl, ?_⟩)
  | (with_reducible refine x_op ?_) | (with_reducible refine x_seq ?_) | (with_reducible refine x_nx ?_) | (with_reducible refine x_asg ?_) | (with_reducible refine x_name ?_)
  | ((with_reducible show rI0 _ _ _ _ _); refine ⟨_, _, rfl, rfl, ?_⟩)
  | (with_reducible refine x_ret ?_) | (with_reducible refine x_rt ?_) | (with_reducible refine x_ifS ?_) | (with_reducible refine x_test ?_) | (with_reducible refine x_bl ?_)
  | (with_reducible refine x_cons ?_) | (with_reducible refine x_nil ?_) | (with_reducible refine x_call ?_) | (with_reducible refine x_CB ?_)
  | ((with_reducible refine' x_ixT ?h ?e ?q); (case h => walk_at "fx"); (case e => rfl))
  | ((with_reducible refine' x_ixL ?h ?e ?q); (case h => walk_at "fx"); (case e => rfl))
  | (with_reducible refine x_fld ?_)
  | ((with_reducible refine' x_at ?h ?c ?n ?l ?q); (case h => walk_at "fx"); (case c => walk_at "cl"); (case n => walk_at "na"); (case l => rfl))
  | (with_reducible refine x_un ?_) | ((with_reducible show rU _ _ _ _); refine ⟨_, rfl, ?_⟩)
  | (with_reducible refine x_not ?_) | (with_reducible refine x_and ?_) | (with_reducible refine x_or ?_) | (with_reducible refine x_tB ?_) | (with_reducible refine x_andV ?_) | (with_reducible refine x_notV ?_) | (with_reducible refine x_chain ?_) | (with_reducible refine x_chn ?_) | (with_reducible refine x_link ?_) | (with_reducible refine x_last ?_)
  | ((with_reducible refine x_eq ?s ?_); (case s => rfl)) | ((with_reducible refine x_ne ?s ?_); (case s => rfl))
  | (with_reducible refine x_tup ?_) | (with_reducible refine x_lst ?_) | (with_reducible refine x_disp (Nat.le_of_ble_eq_true rfl) ?_)
  | (with_reducible refine x_retN ?_) | (with_reducible refine x_drop ?_) | (with_reducible refine x_next ?_) | (with_reducible refine x_bk ?_) | (with_reducible refine x_ct ?_) | (with_reducible refine x_sfld ?_)
  | ((with_reducible refine' x_gtup ?h ?e ?q); (case h => walk_at "fx"); (case e => rfl)) | ((with_reducible refine' x_gunl ?h ?e ?q); (case h => walk_at "fx"); (case e => rfl))
  | (with_reducible refine x_gcons ?_) | (with_reducible refine x_gnil ?_) | (with_reducible refine x_gsub ?_)
  | (with_reducible refine x_for ?_) | (with_reducible refine x_lc ?_) | (with_reducible refine x_yes ?_) | (with_reducible refine x_iList ?_) | (with_reducible refine x_iTup ?_) | (with_reducible refine x_iSeq ?_) | (with_reducible refine x_iZip ?_) | (with_reducible refine x_iEnum ?_) | (with_reducible refine x_iRng1 ?_)
  | ((with_reducible refine' x_itL ?h ?q); (case h => walk_at "fx")) | ((with_reducible refine' x_itT ?h ?q); (case h => walk_at "fx")) | ((with_reducible refine' x_itSL ?h ?q); (case h => walk_at "fx")) | ((with_reducible refine' x_itST ?h ?q); (case h => walk_at "fx"))
  | ((with_reducible refine' x_itZ ?h1 ?h2 ?q); (case h1 => walk_at "fx"); (case h2 => walk_at "fx")) | ((with_reducible refine' x_itE ?h ?q); (case h => walk_at "fx"))
  | ((with_reducible refine' x_lenL ?h ?q); (case h => walk_at "fx")) | ((with_reducible refine' x_lenT ?h ?q); (case h => walk_at "fx"))
  | ((with_reducible refine' x_lofL ?h ?q); (case h => walk_at "fx")) | ((with_reducible refine' x_lofT ?h ?q); (case h => walk_at "fx"))
  | (with_reducible refine x_aug ?_) | (with_reducible refine x_ipI ?_) | (with_reducible refine x_meth ?_) | ((with_reducible refine' x_mt ?h ?l ?q); (case h => walk_at "fx"); (case l => rfl)) | (with_reducible refine x_js ?_) | (with_reducible refine x_js0 ?_) | (with_reducible refine x_fmtI ?_) | (with_reducible refine x_make ?_) | (with_reducible refine x_makeK ?_)
  | (with_reducible refine iteT ?_) | (with_reducible refine iteF ?_) | (with_reducible refine ifNT' ?_) | (with_reducible refine ifNF' ?_))
local macro_rules | `(tactic| walk_at "go") => `(tactic| repeat walk_at "step")
section
variable {P : Program} {w : World} {K : PySem.W.Frag} {mg : Str → Option Value} {base : Heap}
def spRefuse : Sp := fun vs H Q _ => ∃ x y : V, vs = [x, y, .non] ∧ Q .non H
abbrev sc_Font_refuseN : List Str := ["self", "place", "reason"]
theorem sc_Font_refuse : FnScope sc_Font_refuseN ["self", "place", "reason"] (defScope s_Font_refuse) := ⟨rfl, rfl, rfl, by decide +kernel, rfl, by decide +kernel, by decide +kernel⟩
theorem k_Font_refuse (T : Txt K mg) : KeptM P w K mg base CX0 1 (He.ga K "Font") "refuse" ["self", "place", "reason"] (spRefuse) := by
  obtain ⟨fd, F⟩ := T.f_Font_refuse
  refine ⟨_, fd, Txt.h_Font_refuse T, Txt.c_Font T, F.bindsN (ps := ["self", "place", "reason"]) (fun _ _ _ _ _ _ us hl => match us, hl with | [_, _, _], _ => rfl), ?_⟩
  refine ok0 F sc_Font_refuse (fun vs H Q E h => ?_) (fun cdv A outer s H vs Q E hr h => ?_)
  · obtain ⟨x, y, rfl, _⟩ := h
    rfl
  refine ⟨_, (pss_one (ps_if (pt_cmpR op_notN (pv 2) pe_non (nomark _)) (pss_one ps_never) pss_nil)), ?_⟩
  obtain ⟨x, y, rfl, g⟩ := h
  walk_at "go"
  refine ⟨rfl, ?_⟩
  walk_at "go"
  refine ifNF rfl ?_
  walk_at "go"
  exact g
def spCheck (K : PySem.W.Frag) : Sp := fun vs H Q _ => ∃ (v : V) (f : Fd), vs = [v] ∧ FontAt K H v f ∧ FOk f ∧ Tells H Q .non
abbrev sc_Font_check_glyphsN : List Str := ["self", "number", "glyph"]
theorem sc_Font_check_glyphs : FnScope sc_Font_check_glyphsN ["self"] (defScope s_Font_check_glyphs) := ⟨rfl, rfl, rfl, by decide +kernel, rfl, by decide +kernel, by decide +kernel⟩
theorem k_Font_check_glyphs (T : Txt K mg) : KeptM P w K mg base CX0 4 (He.ga K "Font") "check_glyphs" ["self"] (spCheck K) := by
  obtain ⟨fd, F⟩ := T.f_Font_check_glyphs
  refine ⟨_, fd, Txt.h_Font_check_glyphs T, Txt.c_Font T, F.bindsN (ps := ["self"]) (fun _ _ _ _ _ _ us hl => match us, hl with | [_], _ => rfl), ?_⟩
  refine ok0 F sc_Font_check_glyphs (fun vs H Q E h => ?_) (fun cdv A outer s H vs Q E hr h => ?_)
  · obtain ⟨v, f, rfl, _⟩ := h
    rfl
  refine ⟨_, (pss_cons (ps_if (pt_not (pt_chn pe_int (ptc_link op_le (pe_fld (pv 0) rfl) (ptc_last op_le pe_int)))) (pss_one (ps_expr (pe_km (k_Font_refuse T) (by decide) hr (pv 0) pass0 (pa_cons pe_str (pa_cons pe_str pa_nil))))) pss_nil)
      (pss_cons (ps_if (pt_not (pt_chn pe_int (ptc_link op_le (pe_callB (lenK K rfl) (by rfl) (Txt.n_len T) PySem.boot_len (pa_cons (pe_fld (pv 0) rfl) pa_nil)) (ptc_last op_le (pe_gi (Txt.i_MOST_GLYPHS T) (by rfl)))))) (pss_one (ps_expr (pe_km (k_Font_refuse T) (by decide) hr (pv 0) pass0 (pa_cons pe_str (pa_cons pe_str pa_nil))))) pss_nil)
      (pss_cons (ps_for PassesOwn.never rfl (pi_enum (by rfl) (Txt.n_enumerate T) (pa_cons (pe_fld (pv 0) rfl) pa_nil)) (pg_tup rfl (pgs_cons (pg_name (i := 1) sc_Font_check_glyphs.nd rfl (.inl rfl)) (pgs_cons (pg_name (i := 2) sc_Font_check_glyphs.nd rfl (.inl rfl)) pgs_nil))) (pss_one (ps_expr (pe_km (k_Font_refuse T) (by decide) hr (pv 0) pass0 (pa_cons (pe_joined (PJ.cons pe_str (PJ.cons (pe_fmt (pv 1)) PJ.nil))) (pa_cons (pe_kc (k_glyph_fault T) (by decide) hr (by rfl) pass0 (pa_cons (pv 2) (pa_cons (pe_callB (lenK K rfl) (by rfl) (Txt.n_len T) PySem.boot_len (pa_cons (pe_fld (pv 0) rfl) pa_nil)) (pa_cons (pe_callB (lenK K rfl) (by rfl) (Txt.n_len T) PySem.boot_len (pa_cons (pe_fld (pv 0) rfl) pa_nil)) pa_nil)))) pa_nil))))))
      (pss_cons (ps_expr (pe_km (k_Font_refuse T) (by decide) hr (pv 0) pass0 (pa_cons pe_str (pa_cons (pe_kc (k_parts_fault T) (by decide) hr (by rfl) pass0 (pa_cons (pe_fld (pv 0) rfl) pa_nil)) pa_nil))))
      (pss_one (ps_expr (pe_km (k_Font_refuse T) (by decide) hr (pv 0) pass0 (pa_cons pe_str (pa_cons (pe_kc (k_chars_fault T) (by decide) hr (by rfl) pass0 (pa_cons (pe_fld (pv 0) rfl) (pa_cons (pe_callB (lenK K rfl) (by rfl) (Txt.n_len T) PySem.boot_len (pa_cons (pe_fld (pv 0) rfl) pa_nil)) pa_nil))) pa_nil))))))))), ?_⟩
  obtain ⟨v, f, rfl, hf, ok, g⟩ := h
  obtain ⟨a, dx, gl, gvs, vc, vl, vfe, va, vr, vu, vpr, rfl, h0, h1, h2, h3, h4, h5, h6, h7, h8, h9⟩ := hf
  have lg := pair_len h2
  have g1 := ok.g1
  have g2 := ok.g2
  obtain ⟨ar, rxs, rfl, hr1, hrx⟩ := dp_lst h7
  have lr := dps_mlen hrx
  walk_at "go"
  refine ifT (by decide) ?_
  walk_at "go"
  refine ifNF (by decide) ?_
  walk_at "go"
  refine ifT (by omega) ?_
  walk_at "go"
  refine ifNF (by omega) ?_
  walk_at "go"
  refine for_at gvs.length (fun i σ' H' => Same H H' ∧ ∃ y1 y2, σ' = [some (.ref a), y1, y2]) ⟨Same.refl _, _, _, rfl⟩ (fun i σ' H' lt F => ?_) (fun σ' H' F => ?_)
  · obtain ⟨s, y1, y2, rfl⟩ := F
    have Z := walk_enum (K := K) h1
    refine ⟨Z.go _ _ s lt, fun x H3 yy => ?_⟩
    obtain ⟨s3, t, x1, rfl, ht, e⟩ := Z.yld _ _ _ _ s lt yy
    obtain ⟨gd, md, hg⟩ := pair_at' h2 e
    have ht := SqT.of (K := K) ht
    have s4 := s.trans s3
    have h0 := s4 _ _ h0
    have h1 := s4.seq h1
    have hr1 := s4.seq hr1
    walk_at "go"
    obtain ⟨z1, z2⟩ := glyph_txt i (by omega)
    refine ⟨_, rfl, by decide, ?_⟩
    walk_at "go"
    refine .inr ⟨_, rfl, z1, ?_⟩
    refine ⟨_, rfl, z2, ?_⟩
    walk_at "go"
    refine ⟨_, _, _, gd, f.regs.length, rfl, GlyphAt.same s4 hg, ok.gs gd (List.mem_of_getElem? md), by rw [lr], fun H5 s5 => ?_⟩
    walk_at "go"
    refine ⟨_, _, rfl, ?_⟩
    walk_at "go"
    exact ⟨s4.trans s5, _, _, rfl⟩
  · obtain ⟨s, y1, y2, rfl⟩ := F
    refine ⟨(walk_enum (K := K) h1).stop _ s, ?_⟩
    have h0 := s _ _ h0
    have h1 := s.seq h1
    walk_at "go"
    refine ⟨gl, gvs, f.gs, rfl, h1, pair_mono (fun _ _ => GlyphAt.same s) h2, g1, g2, fun H5 s5 => ?_⟩
    have h0 := s5 _ _ h0
    have h1 := s5.seq h1
    walk_at "go"
    refine ⟨_, _, rfl, ?_⟩
    walk_at "go"
    refine ⟨_, _, rfl, (s.trans s5).dp h3, fun H6 s6 => ?_⟩
    walk_at "go"
    refine ⟨_, _, rfl, ?_⟩
    walk_at "go"
    exact g _ ((s.trans s5).trans s6)
abbrev sc_Font_check_lookupsN : List Str := ["self", "kinds", "number", "lookup"]
theorem sc_Font_check_lookups : FnScope sc_Font_check_lookupsN ["self"] (defScope s_Font_check_lookups) := ⟨rfl, rfl, rfl, by decide +kernel, rfl, by decide +kernel, by decide +kernel⟩
theorem k_Font_check_lookups (T : Txt K mg) : KeptM P w K mg base CX0 2 (He.ga K "Font") "check_lookups" ["self"] (spCheck K) := by
  obtain ⟨fd, F⟩ := T.f_Font_check_lookups
  refine ⟨_, fd, Txt.h_Font_check_lookups T, Txt.c_Font T, F.bindsN (ps := ["self"]) (fun _ _ _ _ _ _ us hl => match us, hl with | [_], _ => rfl), ?_⟩
  refine ok0 F sc_Font_check_lookups (fun vs H Q E h => ?_) (fun cdv A outer s H vs Q E hr h => ?_)
  · obtain ⟨v, f, rfl, _⟩ := h
    rfl
  refine ⟨_, (pss_cons (ps_if (pt_cmpR op_gt (pe_callB (lenK K rfl) (by rfl) (Txt.n_len T) PySem.boot_len (pa_cons (pe_fld (pv 0) rfl) pa_nil)) (pe_gi (Txt.i_MOST_LOOKUPS T) (by rfl)) (nomark _)) (pss_one (ps_expr (pe_km (k_Font_refuse T) (by decide) hr (pv 0) pass0 (pa_cons pe_str (pa_cons pe_str pa_nil))))) pss_nil)
      (pss_cons (ps_setLc (i := 1) (own := [("lookup", 3)]) (tt := tYes) rfl sc_Font_check_lookups.nd rfl rfl (sw_true rfl rfl rfl (by decide +kernel)) (pi_list (pe_fld (pv 0) rfl)) (blkOk_by (N := sc_Font_check_lookupsN) (sc := (defScope s_Font_check_lookups)) (by decide +kernel)) (fun _ _ _ _ _ => (pg_name (i := 3) sc_Font_check_lookups.nd rfl (.inl rfl))) (fun _ _ _ _ _ => pts_nil) (fun _ _ _ _ _ => (fldK K rfl (pv 3) rfl)))
      (pss_cons (ps_for PassesOwn.never rfl (pi_enum (by rfl) (Txt.n_enumerate T) (pa_cons (pe_fld (pv 0) rfl) pa_nil)) (g := gNo) pg_no (tb := tNever) pss_never)
      (pss_cons (ps_if (pt_cmpR op_gt (pe_callB (lenK K rfl) (by rfl) (Txt.n_len T) PySem.boot_len (pa_cons (pe_fld (pv 0) rfl) pa_nil)) (pe_gi (Txt.i_MOST_FEATURES T) (by rfl)) (nomark _)) (pss_one (ps_expr (pe_km (k_Font_refuse T) (by decide) hr (pv 0) pass0 (pa_cons pe_str (pa_cons pe_str pa_nil))))) pss_nil)
      (pss_one (ps_expr (pe_km (k_Font_refuse T) (by decide) hr (pv 0) pass0 (pa_cons pe_str (pa_cons (pe_kc (k_feature_fault T) (by decide) hr (by rfl) pass0 (pa_cons (pe_fld (pv 0) rfl) (pa_cons (pe_callB (lenK K rfl) (by rfl) (Txt.n_len T) PySem.boot_len (pa_cons (pe_fld (pv 0) rfl) pa_nil)) pa_nil))) pa_nil))))))))), ?_⟩
  obtain ⟨v, f, rfl, hf, ok, g⟩ := h
  obtain ⟨a, dx, gl, gvs, vc, vl, vfe, va, vr, vu, vpr, rfl, h0, h1, h2, h3, h4, h5, h6, h7, h8, h9⟩ := hf
  obtain ⟨al, rfl, hl⟩ := dp_nilL h4
  obtain ⟨af, rfl, hfe⟩ := dp_nilL h5
  walk_at "go"
  refine ifF (by decide) ?_
  walk_at "go"
  intro L nL
  refine lc_flatR (K := K) [] (walk_list hl) rfl (by decide) rfl nL (fun i x H4 lt => absurd lt (Nat.not_lt_zero i)) (fun H6 acc s6 hq d => ?_)
  have h0 := s6 _ _ h0
  have hl := s6.seq hl
  have hfe := s6.seq hfe
  walk_at "go"
  refine for_none (walk_enum (K := K) hl) ?_
  walk_at "go"
  refine ifF (by decide) ?_
  walk_at "go"
  refine ⟨_, _, rfl, s6.dp h5, fun H7 s7 => ?_⟩
  walk_at "go"
  refine ⟨_, _, rfl, ?_⟩
  walk_at "go"
  exact g _ (s6.trans s7)
abbrev sc_Font_check_restN : List Str := ["self", "instructions", "value"]
theorem sc_Font_check_rest : FnScope sc_Font_check_restN ["self"] (defScope s_Font_check_rest) := ⟨rfl, rfl, rfl, by decide +kernel, rfl, by decide +kernel, by decide +kernel⟩
theorem k_Font_check_rest (T : Txt K mg) : KeptM P w K mg base CX0 2 (He.ga K "Font") "check_rest" ["self"] (spCheck K) := by
  obtain ⟨fd, F⟩ := T.f_Font_check_rest
  refine ⟨_, fd, Txt.h_Font_check_rest T, Txt.c_Font T, F.bindsN (ps := ["self"]) (fun _ _ _ _ _ _ us hl => match us, hl with | [_], _ => rfl), ?_⟩
  refine ok0 F sc_Font_check_rest (fun vs H Q E h => ?_) (fun cdv A outer s H vs Q E hr h => ?_)
  · obtain ⟨v, f, rfl, _⟩ := h
    rfl
  refine ⟨_, (pss_cons (ps_if (pt_cmpR op_gt (pe_callB (lenK K rfl) (by rfl) (Txt.n_len T) PySem.boot_len (pa_cons (pe_fld (pv 0) rfl) pa_nil)) (pe_gi (Txt.i_MOST_AXES T) (by rfl)) (nomark _)) (pss_one (ps_expr (pe_km (k_Font_refuse T) (by decide) hr (pv 0) pass0 (pa_cons pe_str (pa_cons pe_str pa_nil))))) pss_nil)
      (pss_cons (ps_expr (pe_km (k_Font_refuse T) (by decide) hr (pv 0) pass0 (pa_cons pe_str (pa_cons (pe_kc (k_axis_fault T) (by decide) hr (by rfl) pass0 (pa_cons (pe_fld (pv 0) rfl) pa_nil)) pa_nil))))
      (pss_cons (ps_if (pt_cmpR op_gt (pe_callB (lenK K rfl) (by rfl) (Txt.n_len T) PySem.boot_len (pa_cons (pe_fld (pv 0) rfl) pa_nil)) (pe_gi (Txt.i_MOST_REGIONS T) (by rfl)) (nomark _)) (pss_one (ps_expr (pe_km (k_Font_refuse T) (by decide) hr (pv 0) pass0 (pa_cons pe_str (pa_cons pe_str pa_nil))))) pss_nil)
      (pss_cons (ps_expr (pe_km (k_Font_refuse T) (by decide) hr (pv 0) pass0 (pa_cons pe_str (pa_cons (pe_kc (k_region_fault T) (by decide) hr (by rfl) pass0 (pa_cons (pe_fld (pv 0) rfl) (pa_cons (pe_callB (lenK K rfl) (by rfl) (Txt.n_len T) PySem.boot_len (pa_cons (pe_fld (pv 0) rfl) pa_nil)) pa_nil))) pa_nil))))
      (pss_cons (ps_if (pt_cmpR op_gt (pe_callB (lenK K rfl) (by rfl) (Txt.n_len T) PySem.boot_len (pa_cons (pe_fld (pv 0) rfl) pa_nil)) (pe_gi (Txt.i_MOST_FUNCTIONS T) (by rfl)) (nomark _)) (pss_one (ps_expr (pe_km (k_Font_refuse T) (by decide) hr (pv 0) pass0 (pa_cons pe_str (pa_cons pe_str pa_nil))))) pss_nil)
      (pss_cons (ps_for PassesOwn.never rfl (pi_list (pe_fld (pv 0) rfl)) (g := gNo) pg_no (tb := tNever) pss_never)
      (pss_one (ps_if (PW.pt (pw_or (pt_cmpR op_gt (pe_callB (lenK K rfl) (by rfl) (Txt.n_len T) PySem.boot_len (pa_cons (pe_fld (pv 0) rfl) pa_nil)) (pe_gi (Txt.i_MOST_VALUES T) (by rfl)) (nomark _)) (pw_or1 (pt_val (pe_callB (cr_any rfl) (by rfl) (Txt.n_any T) (by decide +kernel) (pa_cons (pe_lc (own := [("value", 2)]) (tt := tYes) rfl sc_Font_check_rest.nd (pi_list (pe_fld (pv 0) rfl)) (blkOk_by (N := sc_Font_check_restN) (sc := (defScope s_Font_check_rest)) (by decide +kernel)) (fun _ _ _ _ _ => (pg_name (i := 2) sc_Font_check_rest.nd rfl (.inl rfl))) (fun _ _ _ _ _ => pts_nil) (fun _ _ _ _ _ => (pe_not (pe_chain op_le op_le (pe_un un_neg pe_int) (pv 2) pe_int)))) pa_nil)))))) (pss_one (ps_expr (pe_km (k_Font_refuse T) (by decide) hr (pv 0) pass0 (pa_cons pe_str (pa_cons pe_str pa_nil))))) pss_nil)))))))), ?_⟩
  obtain ⟨v, f, rfl, hf, ok, g⟩ := h
  obtain ⟨a, dx, gl, gvs, vc, vl, vfe, va, vr, vu, vpr, rfl, h0, h1, h2, h3, h4, h5, h6, h7, h8, h9⟩ := hf
  obtain ⟨aa, axs, rfl, ha1, hax⟩ := dp_lst h6
  obtain ⟨ar, rxs, rfl, hr1, hrx⟩ := dp_lst h7
  obtain ⟨au, rfl, hu⟩ := dp_nilL h8
  obtain ⟨ap, rfl, hpr⟩ := dp_nilL h9
  have la := dps_mlen hax
  have lr := dps_mlen hrx
  have a3 := ok.a3
  have r4 := ok.r4
  walk_at "go"
  refine ifF (by omega) ?_
  walk_at "go"
  refine ⟨_, _, rfl, h6, ok.ax, fun H1 s1 => ?_⟩
  walk_at "go"
  refine ⟨_, _, rfl, ?_⟩
  have h0 := s1 _ _ h0
  have hr1 := s1.seq hr1
  have ha1 := s1.seq ha1
  walk_at "go"
  refine ifF (by omega) ?_
  walk_at "go"
  refine ⟨_, f.axes.length, _, by rw [la]; rfl, s1.dp h7, ok.rg, ok.sp, fun H2 s2 => ?_⟩
  walk_at "go"
  refine ⟨_, _, rfl, ?_⟩
  have h0 := s2 _ _ h0
  have hu := (s1.trans s2).seq hu
  have hpr := (s1.trans s2).seq hpr
  walk_at "go"
  refine ifF (by decide) ?_
  walk_at "go"
  refine for_noneL hu ?_
  walk_at "go"
  refine ifF (by decide) ?_
  walk_at "go"
  intro L nL
  refine lc_flatR (K := K) [] (walk_list hpr) rfl (by decide) rfl nL (fun i x H4 lt => absurd lt (Nat.not_lt_zero i)) (fun H6 acc s6 hq d => ?_)
  rw [dps_nil d] at hq
  walk_at "go"
  refine ⟨L, [], rfl, SqL.of hq, ?_⟩
  walk_at "go"
  exact g _ ((s1.trans s2).trans s6)
end
end Fl
set_option Elab.async false
set_option linter.all false
set_option maxRecDepth 100000
set_option maxHeartbeats 4000000
/-! Moves. -/
namespace Fl
open PySem PySem.Spec PyProof.Rows L2
local macro_rules | `(tactic| walk_at "fx") => `(tactic| first | assumption | solve_by_elim [seqT, Same.trans, Same.seq])
local macro_rules | `(tactic| walk_at "cl") => `(tactic| first | assumption | exact Txt.c_Glyph (by assumption) | exact Txt.c_Font (by assumption) | exact Txt.c_Moves (by assumption))
local macro_rules | `(tactic| walk_at "na") => `(tactic| first | assumption | exact Txt.a_Glyph_advance (by assumption) | exact Txt.a_Glyph_outline (by assumption) | exact Txt.a_Glyph_parts (by assumption) | exact Txt.a_Glyph_anchors (by assumption) | exact Txt.a_Glyph_mark (by assumption) | exact Txt.a_Glyph_deltas (by assumption) | exact Txt.a_Glyph_hint (by assumption) | exact Txt.a_Font_unit (by assumption) | exact Txt.a_Font_glyphs (by assumption) | exact Txt.a_Font_chars (by assumption) | exact Txt.a_Font_lookups (by assumption) | exact Txt.a_Font_features (by assumption) | exact Txt.a_Font_axes (by assumption) | exact Txt.a_Font_regions (by assumption) | exact Txt.a_Font_functions (by assumption) | exact Txt.a_Font_presets (by assumption) | exact Txt.a_Moves_sums (by assumption))
local macro_rules | `(tactic| walk_at "step") => `(tactic| first
  | (with_reducible refine x_c ?_)
  | ((with_reducible show tVar _ _ _ _); refine ⟨_, rfl, ?_⟩)
  | (with_reducible refine x_op ?_) | (with_reducible refine x_seq ?_) | (with_reducible refine x_nx ?_) | (with_reducible refine x_asg ?_) | (with_reducible refine x_name ?_)
  | ((with_reducible show rI0 _ _ _ _ _); refine ⟨_, _, rfl, rfl, ?_⟩)
  | (with_reducible refine x_ret ?_) | (with_reducible refine x_rt ?_) | (with_reducible refine x_ifS ?_) | (with_reducible refine x_test ?_) | (with_reducible refine x_bl ?_)
  | (with_reducible refine x_cons ?_) | (with_reducible refine x_nil ?_) | (with_reducible refine x_call ?_) | (with_reducible refine x_CB ?_)
  | ((with_reducible refine' x_ixT ?h ?e ?q); (case h => walk_at "fx"); (case e => rfl))
  | ((with_reducible refine' x_ixL ?h ?e ?q); (case h => walk_at "fx"); (case e => rfl))
  | (with_reducible refine x_fld ?_)
  | ((with_reducible refine' x_at ?h ?c ?n ?l ?q); (case h => walk_at "fx"); (case c => walk_at "cl"); (case n => walk_at "na"); (case l => rfl))
  | (with_reducible refine x_un ?_) | ((with_reducible show rU _ _ _ _); refine ⟨_, rfl, ?_⟩)
  | (with_reducible refine x_not ?_) | (with_reducible refine x_and ?_) | (with_reducible refine x_or ?_) | (with_reducible refine x_tB ?_) | (with_reducible refine x_andV ?_) | (with_reducible refine x_notV ?_) | (with_reducible refine x_chain ?_) | (with_reducible refine x_chn ?_) | (with_reducible refine x_link ?_) | (with_reducible refine x_last ?_)
  | ((with_reducible refine x_eq ?s ?_); (case s => rfl)) | ((with_reducible refine x_ne ?s ?_); (case s => rfl))
  | (with_reducible refine x_tup ?_) | (with_reducible refine x_lst ?_) | (with_reducible refine x_disp (Nat.le_of_ble_eq_true rfl) ?_)
  | (with_reducible refine x_retN ?_) | (with_reducible refine x_drop ?_) | (with_reducible refine x_next ?_) | (with_reducible refine x_bk ?_) | (with_reducible refine x_ct ?_) | (with_reducible refine x_sfld ?_)
  | ((with_reducible refine' x_gtup ?h ?e ?q); (case h => walk_at "fx"); (case e => rfl)) | ((with_reducible refine' x_gunl ?h ?e ?q); (case h => walk_at "fx"); (case e => rfl))
  | (with_reducible refine x_gcons ?_) | (with_reducible refine x_gnil ?_) | (with_reducible refine x_gsub ?_)
  | (with_reducible refine x_for ?_) | (with_reducible refine x_lc ?_) | (with_reducible refine x_yes ?_) | (with_reducible refine x_iList ?_) | (with_reducible refine x_iTup ?_) | (with_reducible refine x_iSeq ?_) | (with_reducible refine x_iZip ?_) | (with_reducible refine x_iEnum ?_) | (with_reducible refine x_iRng1 ?_)
  | ((with_reducible refine' x_itL ?h ?q); (case h => walk_at "fx")) | ((with_reducible refine' x_itT ?h ?q); (case h => walk_at "fx")) | ((with_reducible refine' x_itSL ?h ?q); (case h => walk_at "fx")) | ((with_reducible refine' x_itST ?h ?q); (case h => walk_at "fx"))
  | ((with_reducible refine' x_itZ ?h1 ?h2 ?q); (case h1 => walk_at "fx"); (case h2 => walk_at "fx")) | ((with_reducible refine' x_itE ?h ?q); (case h => walk_at "fx"))
  | ((with_reducible refine' x_lenL ?h ?q); (case h => walk_at "fx")) | ((with_reducible refine' x_lenT ?h ?q); (case h => walk_at "fx"))
  | ((with_reducible refine' x_lofL ?h ?q); (case h => walk_at "fx")) | ((with_reducible refine' x_lofT ?h ?q); (case h => walk_at "fx"))
  | (with_reducible refine x_aug ?_) | (with_reducible refine x_ipI ?_) | (with_reducible refine x_meth ?_) | ((with_reducible refine' x_mt ?h ?l ?q); (case h => walk_at "fx"); (case l => rfl)) | (with_reducible refine x_js ?_) | (with_reducible refine x_js0 ?_) | (with_reducible refine x_fmtI ?_) | (with_reducible refine x_make ?_) | (with_reducible refine x_dget2 ?_) | ((with_reducible refine' x_isD ?h ?q); (case h => walk_at "fx")) | ((with_reducible refine' x_dg ?h ?q); (case h => walk_at "fx")) | (with_reducible refine x_din ?_) | ((with_reducible refine' x_dinA ?h ?q); (case h => walk_at "fx")) | (with_reducible refine x_dput ?_) | (with_reducible refine x_makeK ?_)
  | (with_reducible refine iteT ?_) | (with_reducible refine iteF ?_) | (with_reducible refine ifNT' ?_) | (with_reducible refine ifNF' ?_))
local macro_rules | `(tactic| walk_at "go") => `(tactic| repeat walk_at "step")
section
variable {P : Program} {w : World} {K : PySem.W.Frag} {mg : Str → Option Value} {base : Heap}
theorem atI_of {α : Type} {xs : List α} {i : Int} {v : α} (h0 : 0 ≤ i) (e : xs[i.toNat]? = some v) : atI xs i = some v := by
  have := atI_nat e
  rw [Int.toNat_of_nonneg h0] at this
  exact this
/-! ### has, by -/
def spHas (K : PySem.W.Frag) : Sp := fun vs H Q _ => ∃ (v : V) (p : Int) (f : Int → Option Mv), vs = [v, .int p] ∧ MovesAt K H v f ∧ Q (.bl (f p).isSome) H
abbrev sc_Moves_hasN : List Str := ["self", "point"]
theorem sc_Moves_has : FnScope sc_Moves_hasN ["self", "point"] (defScope s_Moves_has) := ⟨rfl, rfl, rfl, by decide +kernel, rfl, by decide +kernel, by decide +kernel⟩
theorem k_Moves_has (T : Txt K mg) : KeptM P w K mg base CX0 1 (He.ga K "Moves") "has" ["self", "point"] (spHas K) := by
  obtain ⟨fd, F⟩ := T.f_Moves_has
  refine ⟨_, fd, Txt.h_Moves_has T, Txt.c_Moves T, F.bindsN (ps := ["self", "point"]) (fun _ _ _ _ _ _ us hl => match us, hl with | [_, _], _ => rfl), ?_⟩
  refine ok0 F sc_Moves_has (fun vs H Q E h => ?_) (fun cdv A outer s H vs Q E hr h => ?_)
  · obtain ⟨v, p, f, rfl, _⟩ := h
    rfl
  refine ⟨_, (pss_one (ps_ret (pe_cmp (pc_din (hu_of hr) (pv 1) (pe_fld (pv 0) rfl)) rfl))), ?_⟩
  obtain ⟨v, p, f, rfl, hm, g⟩ := h
  obtain ⟨a, dx, d, kvs, rfl, h1, h2, h3⟩ := hm
  walk_at "go"
  rw [h3.isSome]
  exact g
def spBy (K : PySem.W.Frag) : Sp := fun vs H Q _ => ∃ (v : V) (p : Int) (f : Int → Option Mv), vs = [v, .int p] ∧ MovesAt K H v f ∧ SzM 2000 f ∧ Gives K H Q (pD (byM f p))
theorem mv0_dp (T : Txt K mg) {H : Hp} {t : Addr} (e : H t = some (.tup [.ref (He.ga K "NOTHING"), .ref (He.ga K "NOTHING")])) : Dp K H (.ref t) (mvD mv0) := mv_dp (SqT.of e) (nothing_dp T H) (nothing_dp T H)
abbrev sc_Moves_byN : List Str := ["self", "point", "x", "y"]
theorem sc_Moves_by : FnScope sc_Moves_byN ["self", "point"] (defScope s_Moves_by) := ⟨rfl, rfl, rfl, by decide +kernel, rfl, by decide +kernel, by decide +kernel⟩
theorem k_Moves_by (T : Txt K mg) : KeptM P w K mg base CX0 2 (He.ga K "Moves") "by" ["self", "point"] (spBy K) := by
  obtain ⟨fd, F⟩ := T.f_Moves_by
  refine ⟨_, fd, Txt.h_Moves_by T, Txt.c_Moves T, F.bindsN (ps := ["self", "point"]) (fun _ _ _ _ _ _ us hl => match us, hl with | [_, _], _ => rfl), ?_⟩
  refine ok0 F sc_Moves_by (fun vs H Q E h => ?_) (fun cdv A outer s H vs Q E hr h => ?_)
  · obtain ⟨v, p, f, rfl, _⟩ := h
    rfl
  refine ⟨_, (pss_cons (ps_asg (pe_dget2 (hu_of hr) (pe_fld (pv 0) rfl) (pv 1) (pe_tup (pa_cons (pe_glob (v := .ref (He.ga K "NOTHING")) (by rfl) (Txt.g_NOTHING T) rfl) (pa_cons (pe_glob (v := .ref (He.ga K "NOTHING")) (by rfl) (Txt.g_NOTHING T) rfl) pa_nil))) (by constructor <;> rfl)) (pg_tup rfl (pgs_cons (pg_name (i := 2) sc_Moves_by.nd rfl (.inl rfl)) (pgs_cons (pg_name (i := 3) sc_Moves_by.nd rfl (.inl rfl)) pgs_nil))))
      (pss_one (ps_ret (pe_tup (pa_cons (pe_kc (k_nearest T) (by decide) hr (by rfl) pass0 (pa_cons (pv 2) pa_nil)) (pa_cons (pe_kc (k_nearest T) (by decide) hr (by rfl) pass0 (pa_cons (pv 3) pa_nil)) pa_nil)))))), ?_⟩
  obtain ⟨v, p, f, rfl, hm, sz, g⟩ := h
  obtain ⟨a, dx, d, kvs, rfl, h1, h2, h3⟩ := hm
  walk_at "go"
  intro t H1 s1 n1 e1
  have h2 := s1 _ _ h2
  obtain ⟨z1, z2⟩ := sz.get (by omega) p
  obtain ⟨b, x, y, eb, hb, hx, hy⟩ := dp_mv ((h3.same s1).get (mv0_dp T e1) p)
  walk_at "go"
  rw [eb]
  walk_at "go"
  refine ⟨_, _, rfl, hx, z1, ?_⟩
  walk_at "go"
  refine ⟨_, _, rfl, hy, z2, ?_⟩
  walk_at "go"
  intro u H2 s2 n2 e2
  walk_at "go"
  exact g _ _ (s1.trans s2) (pair_dp (p := byM f p) (SqT.of e2))
/-! ### Moves.__init__ -/
def spMovesI (K : PySem.W.Frag) : Sp := fun vs H Q _ => ∃ (x dx : Addr) (H2 : Hp) (vf vg vp : V) (f : Fd) (gd : Gd) (ps : List Rt), vs = [.ref x, vf, vg, vp] ∧ H = upd (upd H2 dx (.own x)) x (.ins (He.ga K "Moves") dx []) ∧ H2 x = none ∧ H2 dx = none ∧ dx ≠ x ∧
  FontAt K H2 vf f ∧ GlyphAt K H2 vg gd ∧ Dp K H2 vp (.list (ps.map pD)) ∧ FOk f ∧ GOk f.regs.length gd ∧ ps.length = f.axes.length ∧ (∀ p ∈ ps, Sz 16 p) ∧ ∀ H', Same H2 H' → MovesAt K H' (.ref x) (movesM f gd ps) → Q .non H'
abbrev sc_Moves_initN : List Str := ["self", "font", "glyph", "parts", "region", "point", "x", "y", "weight", "old_x", "old_y"]
theorem sc_Moves_init : FnScope sc_Moves_initN ["self", "font", "glyph", "parts"] (defScope s_Moves_init) := ⟨rfl, rfl, rfl, by decide +kernel, rfl, by decide +kernel, by decide +kernel⟩
theorem k_Moves_init (T : Txt K mg) : KeptI P w K mg base CX0 5 "Moves" (He.ga K "Moves") ["self", "font", "glyph", "parts"] (spMovesI K) := by
  obtain ⟨fd, F⟩ := T.f_Moves_init
  refine ⟨_, fd, T.g_Moves, Txt.m_Moves T, F.bindsN (ps := ["self", "font", "glyph", "parts"]) (fun _ _ _ _ _ _ us hl => match us, hl with | [_, _, _, _], _ => rfl), ?_⟩
  refine ok0 F sc_Moves_init (fun vs H Q E h => ?_) (fun cdv A outer s H vs Q E hr h => ?_)
  · obtain ⟨x, dx, H2, vf, vg, vp, f, gd, ps, rfl, _⟩ := h
    rfl
  refine ⟨_, (pss_cons (ps_fld (pv 0) pe_dnewK rfl)
      (pss_one (ps_for PassesOwn.never rfl (pi_list (pe_fld (pv 2) rfl)) (pg_tup rfl (pgs_cons (pg_name (i := 4) sc_Moves_init.nd rfl (.inl rfl)) (pgs_cons (pg_name (i := 5) sc_Moves_init.nd rfl (.inl rfl)) (pgs_cons (pg_name (i := 6) sc_Moves_init.nd rfl (.inl rfl)) (pgs_cons (pg_name (i := 7) sc_Moves_init.nd rfl (.inl rfl)) pgs_nil))))) (pss_cons (ps_set (i := 8) sc_Moves_init.nd rfl (.inl rfl) (pe_kc (k_factor T) (by decide) hr (by rfl) pass0 (pa_cons (pe_ix ix_list (pe_fld (pv 1) rfl) (pv 4) (fun _ _ => rfl)) (pa_cons (pv 3) pa_nil))))
      (pss_cons (ps_asg (pe_dget2 (hu_of hr) (pe_fld (pv 0) rfl) (pv 5) (pe_tup (pa_cons (pe_glob (v := .ref (He.ga K "NOTHING")) (by rfl) (Txt.g_NOTHING T) rfl) (pa_cons (pe_glob (v := .ref (He.ga K "NOTHING")) (by rfl) (Txt.g_NOTHING T) rfl) pa_nil))) (by constructor <;> rfl)) (pg_tup rfl (pgs_cons (pg_name (i := 9) sc_Moves_init.nd rfl (.inl rfl)) (pgs_cons (pg_name (i := 10) sc_Moves_init.nd rfl (.inl rfl)) pgs_nil))))
      (pss_one (ps_dput (hu_of hr) (pe_fld (pv 0) rfl) (pv 5) (pe_tup (pa_cons (pe_kc (k_add T) (by decide) hr (by rfl) pass0 (pa_cons (pv 9) (pa_cons (pe_kc (k_multiply T) (by decide) hr (by rfl) pass0 (pa_cons (pv 8) (pa_cons (pe_kc (k_ratio1 T) (by decide) hr (by rfl) pass0 (pa_cons (pv 6) pa_nil)) pa_nil))) pa_nil))) (pa_cons (pe_kc (k_add T) (by decide) hr (by rfl) pass0 (pa_cons (pv 10) (pa_cons (pe_kc (k_multiply T) (by decide) hr (by rfl) pass0 (pa_cons (pv 8) (pa_cons (pe_kc (k_ratio1 T) (by decide) hr (by rfl) pass0 (pa_cons (pv 7) pa_nil)) pa_nil))) pa_nil))) pa_nil))) rfl))))))), ?_⟩
  obtain ⟨x, dx, H2, vf, vg, vp, f, gd, ps, rfl, rfl, nx, ndx, ne, hf, hg, dps, fok, gok, lps, szp, g⟩ := h
  have s0 : Same H2 (upd (upd H2 dx (.own x)) x (.ins (He.ga K "Moves") dx [])) := same_new (same_upd ndx) nx
  have ex : (upd (upd H2 dx (.own x)) x (.ins (He.ga K "Moves") dx [])) x = some (.ins (He.ga K "Moves") dx []) := upd_same
  obtain ⟨H, eH⟩ : ∃ H, H = upd (upd H2 dx (.own x)) x (.ins (He.ga K "Moves") dx []) := ⟨_, rfl⟩
  rw [← eH] at s0 ex ⊢
  walk_at "go"
  refine x_dnew fun d H3 s3 n3 e3 => ?_
  walk_at "go"
  have ex3 := s3 _ _ ex
  have nd2 : H2 d = none := free_of s0 n3
  have ndx' : d ≠ x := fun z => by rw [z, ex] at n3; cases n3
  refine ⟨x, _, dx, [], rfl, ex3, Txt.c_Moves T, Txt.a_Moves_sums T, by decide, ?_⟩
  walk_at "go"
  obtain ⟨H4, eH4⟩ : ∃ H4, H4 = upd H3 x (.ins (He.ga K "Moves") dx (putF "sums" (.ref d) [])) := ⟨_, rfl⟩
  rw [← eH4]
  have s4 : Same H2 H4 := by
    rw [eH4]
    exact same_new (s0.trans s3) nx
  have ex4 : H4 x = some (.ins (He.ga K "Moves") dx [("sums", .ref d)]) := by
    rw [eH4]
    exact upd_same
  have ed4 : H4 d = some (.dK []) := by
    rw [eH4, upd_ne ndx']
    exact e3
  obtain ⟨ag, gx, vo, vpp, va, vd, vh, rfl, g0, g1, g2, g3, g5, g6⟩ := hg
  obtain ⟨pd, xds, rfl, hd, hds⟩ := dp_lst g5
  obtain ⟨af, fx, gl, gvs, vc, vl, vfe, vax, vr, vu, vpr, rfl, f0, f1, f2, f3, f4, f5, f6, f7, f8, f9⟩ := hf
  obtain ⟨pr, rxs, rfl, hr1, hrx⟩ := dp_lst f7
  have lr := dps_mlen hrx
  have ld := dps_mlen hds
  have d5 := gok.ds
  have g0' := s4 _ _ g0
  walk_at "go"
  refine for_at xds.length (fun i σ' H' => Same H2 H' ∧ H' x = some (.ins (He.ga K "Moves") dx [("sums", .ref d)]) ∧ (∃ kvs, H' d = some (.dK kvs) ∧ kvs.length ≤ i ∧ SumsAt K H' kvs (sumsM (weightM f.regs ps) (gd.dl.take i))) ∧ ∃ y1 y2 y3 y4 y5 y6 y7, σ' = [some (.ref x), some (.ref af), some (.ref ag), some vp, y1, y2, y3, y4, y5, y6, y7])
    ⟨s4, ex4, ⟨[], ed4, Nat.zero_le _, fun p => .inl ⟨rfl, rfl⟩⟩, _, _, _, _, _, _, _, rfl⟩ (fun i σ' H' lt F => ?_) (fun σ' H' F => ?_)
  · obtain ⟨s, ex5, ⟨kvs, ed5, lk, hs⟩, y1, y2, y3, y4, y5, y6, y7, rfl⟩ := F
    have Z := walk_list (s.seq hd)
    refine ⟨Z.go _ _ (Same.refl _) lt, fun x1 H5 yy => ?_⟩
    obtain ⟨s5, e⟩ := Z.yld _ _ _ _ (Same.refl _) lt yy
    have ex5 := s5 _ _ ex5
    have ed5 := s5 _ _ ed5
    have hs := hs.same s5
    have s := s.trans s5
    obtain ⟨dl, md, dd⟩ := dps_map hds e
    have mdl := List.mem_of_getElem? md
    obtain ⟨q1, q2, q3, q4, q5, q6⟩ := gok.dl dl mdl
    obtain ⟨t, rfl, ht⟩ := dp_t4' (s.dp dd)
    have lt2 : dl.1.toNat < f.regs.length := by omega
    obtain ⟨rv, hrv⟩ := getI (l := rxs) (i := dl.1.toNat) (by omega)
    obtain ⟨r, mr, dr⟩ := dps_map hrx hrv
    have er : f.regs.getD dl.1.toNat [] = r := by simp [List.getD, mr]
    have f0' := s _ _ f0
    have hr1' := s.seq hr1
    walk_at "go"
    refine x_ixL hr1' (atI_of q1 hrv) ?_
    walk_at "go"
    have rok := fok.rg r (List.mem_of_getElem? mr)
    refine ⟨_, _, _, _, _, rfl, s.dp dr, s.dp dps, rok, fok.a3, lps, szp, fun v6 H6 s6 d6 => ?_⟩
    have ex6 := s6 _ _ ex5
    have ed6 := s6 _ _ ed5
    have hs := hs.same s6
    have szw : Sz 200 (factorM r ps) := sz_factor rok fok.a3 szp
    walk_at "go"
    intro t7 H7 s7 n7 e7
    have ex7 := s7 _ _ ex6
    have ed7 := s7 _ _ ed6
    have hs := hs.same s7
    have szm : SzM 1500 (sumsM (weightM f.regs ps) (gd.dl.take i)) := (sz_sums _ _ 1 (szM_none 1) (by decide) fun d hd => ⟨sz_weight fok gok szp (List.mem_of_mem_take hd), (gok.dl d (List.mem_of_mem_take hd)).2.2.2.2.1, (gok.dl d (List.mem_of_mem_take hd)).2.2.2.2.2⟩).mono (by rw [List.length_take]; omega)
    obtain ⟨z1, z2⟩ := szm.get (by omega) dl.2.1
    obtain ⟨b, vx, vy, eb, hb, hx, hy⟩ := dp_mv (hs.get (mv0_dp T e7) dl.2.1)
    walk_at "go"
    rw [eb]
    walk_at "go"
    have one : ∀ n : Int, rat n 1 = (n, 1) := rat_one
    have b1 : (1 : Int).natAbs < 2 ^ 8000 := Nat.lt_of_lt_of_le (by decide : (1 : Int).natAbs < 2 ^ 1) (Nat.pow_le_pow_right (by omega) (by omega))
    have sx : Sz 15 (dl.2.2.1, 1) := sz_int (lt15 (by omega)) (by decide)
    have sy : Sz 15 (dl.2.2.2, 1) := sz_int (lt15 (by omega)) (by decide)
    refine ⟨_, 1, rfl, by decide, b1, fun v8 H8 s8 d8 => ?_⟩
    rw [one] at d8
    have w8 := s8.dp (s7.dp d6)
    have hx8 := s8.dp hx
    have hy8 := s8.dp hy
    walk_at "go"
    refine ⟨_, _, _, _, rfl, w8, d8, szw.mono (by decide), sx.mono (by decide), trivial, fun v9 H9 s9 d9 => ?_⟩
    walk_at "go"
    refine ⟨_, _, _, _, rfl, s9.dp hx8, d9, z1.mono (by decide), (sz_mul szw sx).mono (by decide), trivial, fun va Ha sa da => ?_⟩
    walk_at "go"
    refine ⟨_, 1, rfl, by decide, b1, fun vb Hb sb db => ?_⟩
    rw [one] at db
    walk_at "go"
    refine ⟨_, _, _, _, rfl, ((s9.trans sa).trans sb).dp w8, db, szw.mono (by decide), sy.mono (by decide), trivial, fun vc Hc sc dc => ?_⟩
    walk_at "go"
    refine ⟨_, _, _, _, rfl, (((s9.trans sa).trans sb).trans sc).dp hy8, dc, z2.mono (by decide), (sz_mul szw sy).mono (by decide), trivial, fun ve He se de => ?_⟩
    walk_at "go"
    intro tt Ht st nt et
    have sT : Same H7 Ht := (((((s8.trans s9).trans sa).trans sb).trans sc).trans se).trans st
    have exT := sT _ _ ex7
    have edT := sT _ _ ed7
    have hsT := hs.same sT
    walk_at "go"
    refine x_dputA edT (by omega) ?_
    walk_at "go"
    have sAll : Same H2 Ht := ((s.trans s6).trans s7).trans sT
    have mvd : Dp K Ht (.ref tt) (mvD (radd ((sumsM (weightM f.regs ps) (gd.dl.take i) dl.2.1).getD mv0).1 (rmul (factorM r ps) (dl.2.2.1, 1)), radd ((sumsM (weightM f.regs ps) (gd.dl.take i) dl.2.1).getD mv0).2 (rmul (factorM r ps) (dl.2.2.2, 1)))) :=
      mv_dp (SqT.of et) ((((sb.trans sc).trans se).trans st).dp da) (st.dp de)
    refine ⟨same_new sAll nd2, by rw [upd_ne ndx'.symm]; exact exT, ⟨_, upd_same, by have := putK_len kvs (.inl dl.2.1) (.ref tt); omega, ?_⟩, _, _, _, _, _, _, _, rfl⟩
    have et : gd.dl.take (i + 1) = gd.dl.take i ++ [dl] := by rw [List.take_add_one, md]; rfl
    unfold sumsM at hsT mvd ⊢
    rw [et, List.foldl_append]
    have := (hsT.put mvd (q := dl.2.1)).flat edT (o := .dK (putK kvs (.inl dl.2.1) (.ref tt)))
    have ew : weightM f.regs ps dl.1 = factorM r ps := by
      unfold weightM
      rw [er]
    rw [← ew] at this
    exact this
  · obtain ⟨s, ex5, ⟨kvs, ed5, lk, hs⟩, y1, y2, y3, y4, y5, y6, y7, rfl⟩ := F
    have Z := walk_list (s.seq hd)
    refine ⟨Z.stop _ (Same.refl _), ?_⟩
    walk_at "go"
    refine g _ s ⟨x, dx, d, kvs, rfl, ex5, ed5, ?_⟩
    rw [ld, List.take_length] at hs
    exact hs
end
end Fl
set_option Elab.async false
set_option linter.all false
set_option maxRecDepth 100000
set_option maxHeartbeats 4000000
/-! Moved outlines. -/
namespace Fl
open PySem PySem.Spec PyProof.Rows L2
local macro_rules | `(tactic| walk_at "fx") => `(tactic| first | assumption | solve_by_elim [seqT, Same.trans, Same.seq])
local macro_rules | `(tactic| walk_at "cl") => `(tactic| first | assumption | exact Txt.c_Glyph (by assumption) | exact Txt.c_Font (by assumption) | exact Txt.c_Moves (by assumption))
local macro_rules | `(tactic| walk_at "na") => `(tactic| first | assumption | exact Txt.a_Glyph_advance (by assumption) | exact Txt.a_Glyph_outline (by assumption) | exact Txt.a_Glyph_parts (by assumption) | exact Txt.a_Glyph_anchors (by assumption) | exact Txt.a_Glyph_mark (by assumption) | exact Txt.a_Glyph_deltas (by assumption) | exact Txt.a_Glyph_hint (by assumption) | exact Txt.a_Font_unit (by assumption) | exact Txt.a_Font_glyphs (by assumption) | exact Txt.a_Font_chars (by assumption) | exact Txt.a_Font_lookups (by assumption) | exact Txt.a_Font_features (by assumption) | exact Txt.a_Font_axes (by assumption) | exact Txt.a_Font_regions (by assumption) | exact Txt.a_Font_functions (by assumption) | exact Txt.a_Font_presets (by assumption) | exact Txt.a_Moves_sums (by assumption))
local macro_rules | `(tactic| walk_at "step") => `(tactic| first
  | (with_reducible refine x_c ?_)
  | ((with_reducible show tVar _ _ _ _); refine ⟨_, rfl, ?_⟩)
  | (with_reducible refine x_op ?_) | (with_reducible refine x_seq ?_) | (with_reducible refine x_nx ?_) | (with_reducible refine x_asg ?_) | (with_reducible refine x_name ?_)
  | ((with_reducible show rI0 _ _ _ _ _); refine ⟨_, _, rfl, rfl, ?_⟩)
  | (with_reducible refine x_ret ?_) | (with_reducible refine x_rt ?_) | (with_reducible refine x_ifS ?_) | (with_reducible refine x_test ?_) | (with_reducible refine x_bl ?_)
  | (with_reducible refine x_cons ?_) | (with_reducible refine x_nil ?_) | (with_reducible refine x_call ?_) | (with_reducible refine x_CB ?_)
  | ((with_reducible refine' x_ixT ?h ?e ?q); (case h => walk_at "fx"); (case e => rfl))
  | ((with_reducible refine' x_ixL ?h ?e ?q); (case h => walk_at "fx"); (case e => rfl))
  | (with_reducible refine x_fld ?_)
  | ((with_reducible refine' x_at ?h ?c ?n ?l ?q); (case h => walk_at "fx"); (case c => walk_at "cl"); (case n => walk_at "na"); (case l => rfl))
  | (with_reducible refine x_un ?_) | ((with_reducible show rU _ _ _ _); refine ⟨_, rfl, ?_⟩)
  | (with_reducible refine x_not ?_) | (with_reducible refine x_and ?_) | (with_reducible refine x_or ?_) | (with_reducible refine x_tB ?_) | (with_reducible refine x_andV ?_) | (with_reducible refine x_notV ?_) | (with_reducible refine x_chain ?_) | (with_reducible refine x_chn ?_) | (with_reducible refine x_link ?_) | (with_reducible refine x_last ?_)
  | ((with_reducible refine x_eq ?s ?_); (case s => rfl)) | ((with_reducible refine x_ne ?s ?_); (case s => rfl))
  | (with_reducible refine x_tup ?_) | (with_reducible refine x_lst ?_) | (with_reducible refine x_disp (Nat.le_of_ble_eq_true rfl) ?_)
  | (with_reducible refine x_retN ?_) | (with_reducible refine x_drop ?_) | (with_reducible refine x_next ?_) | (with_reducible refine x_bk ?_) | (with_reducible refine x_ct ?_) | (with_reducible refine x_sfld ?_)
  | ((with_reducible refine' x_gtup ?h ?e ?q); (case h => walk_at "fx"); (case e => rfl)) | ((with_reducible refine' x_gunl ?h ?e ?q); (case h => walk_at "fx"); (case e => rfl))
  | (with_reducible refine x_gcons ?_) | (with_reducible refine x_gnil ?_) | (with_reducible refine x_gsub ?_)
  | (with_reducible refine x_for ?_) | ((with_reducible refine' x_lcSeq ?hv ?h ?q); (case hv => rfl); (case h => assumption)) | (with_reducible refine x_lc ?_) | (with_reducible refine x_yes ?_) | (with_reducible refine x_iList ?_) | (with_reducible refine x_iTup ?_) | (with_reducible refine x_iSeq ?_) | (with_reducible refine x_iZip ?_) | (with_reducible refine x_iEnum ?_) | (with_reducible refine x_iRng1 ?_)
  | ((with_reducible refine' x_itL ?h ?q); (case h => walk_at "fx")) | ((with_reducible refine' x_itT ?h ?q); (case h => walk_at "fx")) | ((with_reducible refine' x_itSL ?h ?q); (case h => walk_at "fx")) | ((with_reducible refine' x_itST ?h ?q); (case h => walk_at "fx"))
  | ((with_reducible refine' x_itZ ?h1 ?h2 ?q); (case h1 => walk_at "fx"); (case h2 => walk_at "fx")) | ((with_reducible refine' x_itE ?h ?q); (case h => walk_at "fx"))
  | ((with_reducible refine' x_lenL ?h ?q); (case h => walk_at "fx")) | ((with_reducible refine' x_lenT ?h ?q); (case h => walk_at "fx"))
  | ((with_reducible refine' x_lofB ?h ?q); (case h => assumption)) | ((with_reducible refine' x_lofL ?h ?q); (case h => walk_at "fx")) | ((with_reducible refine' x_lofT ?h ?q); (case h => walk_at "fx"))
  | ((with_reducible refine' x_augV ?hv ?h); (case hv => rfl)) | (with_reducible refine x_ipI ?_) | (with_reducible refine x_meth ?_) | ((with_reducible refine' x_mt ?h ?l ?q); (case h => walk_at "fx"); (case l => rfl)) | (with_reducible refine x_js ?_) | (with_reducible refine x_js0 ?_) | (with_reducible refine x_fmtI ?_) | (with_reducible refine x_make ?_) | (with_reducible refine x_bm ?_) | (with_reducible refine x_dget2 ?_) | ((with_reducible refine' x_isD ?h ?q); (case h => walk_at "fx")) | ((with_reducible refine' x_dg ?h ?q); (case h => walk_at "fx")) | (with_reducible refine x_din ?_) | ((with_reducible refine' x_dinA ?h ?q); (case h => walk_at "fx")) | (with_reducible refine x_dput ?_) | (with_reducible refine x_makeK ?_)
  | (with_reducible refine iteT ?_) | (with_reducible refine iteF ?_) | (with_reducible refine ifNT' ?_) | (with_reducible refine ifNF' ?_))
local macro_rules | `(tactic| walk_at "go") => `(tactic| repeat walk_at "step")
section
variable {P : Program} {w : World} {K : PySem.W.Frag} {mg : Str → Option Value} {base : Heap}
abbrev sc_OutOfRange_initN : List Str := ["self", "number"]
theorem sc_OutOfRange_init : FnScope sc_OutOfRange_initN ["self", "number"] (defScope s_OutOfRange_init) := ⟨rfl, rfl, rfl, by decide +kernel, rfl, by decide +kernel, by decide +kernel⟩
theorem k_OutOfRange_init (T : Txt K mg) : KeptO P w K mg base CX0 1 "OutOfRange" (He.ga K "OutOfRange") ["self", "number"] (spOorI K (He.ga K "OutOfRange")) := by
  obtain ⟨fd, F⟩ := T.f_OutOfRange_init
  obtain ⟨_, _, _, m1, m2, m3, m4, _⟩ := T.more
  refine ⟨_, fd, T.g_OutOfRange, m1, m2, m3, F.bindsN (ps := ["self", "number"]) (fun _ _ _ _ _ _ us hl => match us, hl with | [_, _], _ => rfl), ?_⟩
  refine ok0 F sc_OutOfRange_init (fun vs H Q E h => ?_) (fun cdv A outer s H vs Q E hr h => ?_)
  · obtain ⟨_, _, rfl, _⟩ := h
    rfl
  obtain ⟨a, n, rfl, ha, g⟩ := h
  refine ⟨_, (pss_one (ps_ost (pv 0) (pv 1))), ?_⟩
  refine ⟨_, rfl, _, rfl, a, _, rfl, m1, m4, .inl ⟨ha, fun dx n1 ne => ?_⟩⟩
  exact g dx n1 ne
theorem mvC_ok1 {f : Int → Option Mv} {i : Int} {p : Pt} {r : List Pt} (h : ¬ badPt f i p) : mvC f i (p :: r) = (mvC f (i + 1) r).map (movedPt f i p :: ·) := by
  rw [mvC, if_neg h]
theorem mvC_bad {f : Int → Option Mv} {i : Int} {p : Pt} {r : List Pt} (h : badPt f i p) : mvC f i (p :: r) = none := by
  rw [mvC, if_pos h]
theorem drop_at {α : Type} {l : List α} {i : Nat} {x : α} (e : l[i]? = some x) : l.drop i = x :: l.drop (i + 1) := by
  obtain ⟨h, rfl⟩ := List.getElem?_eq_some_iff.mp e
  exact List.drop_eq_getElem_cons h
def spMoved (K : PySem.W.Frag) : Sp := fun vs H Q E => ∃ (vo vm : V) (n : Int) (o : Outl) (m : Int → Option Mv), vs = [vo, vm, .int n] ∧ Dp K H vo (outD o) ∧ MovesAt K H vm m ∧ SzM 2000 m ∧ OutOk o ∧
  (∀ o', mvO m 0 o = some o' → ∀ v H', Same H H' → Dp K (nw H H') v (outD o') → Q v H') ∧ (mvO m 0 o = none → ∀ d H', Same H H' → E (.ref (He.ga K "OutOfRange")) (some d) H')
abbrev sc_moved_outlineN : List Str := ["outline", "moves", "number", "found", "index", "contour", "points", "x", "y", "on", "across", "along"]
theorem sc_moved_outline : FnScope sc_moved_outlineN ["outline", "moves", "number"] (defScope s_moved_outline) := ⟨rfl, rfl, rfl, by decide +kernel, rfl, by decide +kernel, by decide +kernel⟩
theorem k_moved_outline (T : Txt K mg) : Kept P w K mg base (L2.CX P w) 3 "moved_outline" ["outline", "moves", "number"] [] (spMoved K) := by
  obtain ⟨fd, F⟩ := T.f_moved_outline
  refine ⟨_, fd, [], T.g_moved_outline, F.kp, F.bindsN (ps := ["outline", "moves", "number"]) (fun _ _ _ _ _ _ us hl => match us, hl with | [_, _, _], _ => rfl), .nil, ?_⟩
  refine F.ok sc_moved_outline (fun vs H Q E h => ?_) (fun cdv A outer s H vs Q E hr h => ?_)
  · obtain ⟨vo, vm, n, o, m, rfl, _⟩ := h
    rfl
  refine ⟨_, (pss_cons (ps_set (i := 3) sc_moved_outline.nd rfl (.inl rfl) (pe_lst pa_nil))
      (pss_cons (ps_set (i := 4) sc_moved_outline.nd rfl (.inl rfl) pe_int)
      (pss_cons (ps_for (passes_of rfl) rfl (pi_list (pv 0)) (pg_name (i := 5) sc_moved_outline.nd rfl (.inl rfl)) (pss_cons (ps_set (i := 6) sc_moved_outline.nd rfl (.inl rfl) (pe_lst pa_nil))
      (pss_cons (ps_for (passes_of rfl) rfl (pi_list (pv 5)) (pg_tup rfl (pgs_cons (pg_name (i := 7) sc_moved_outline.nd rfl (.inl rfl)) (pgs_cons (pg_name (i := 8) sc_moved_outline.nd rfl (.inl rfl)) (pgs_cons (pg_name (i := 9) sc_moved_outline.nd rfl (.inl rfl)) pgs_nil)))) (pss_cons (ps_asg (pe_km (k_Moves_by T) (by decide) hr (pv 1) pass0 (pa_cons (pv 4) pa_nil)) (pg_tup rfl (pgs_cons (pg_name (i := 10) sc_moved_outline.nd rfl (.inl rfl)) (pgs_cons (pg_name (i := 11) sc_moved_outline.nd rfl (.inl rfl)) pgs_nil))))
      (pss_cons (ps_if (PW.pt (pw_and (pt_val (pe_km (k_Moves_has T) (by decide) hr (pv 1) pass0 (pa_cons (pv 4) pa_nil))) (pw_and1 (pt_not (PW.pt (pw_and (pt_val (pe_kc (k_is_near T) (by decide) hr (by rfl) pass0 (pa_cons (pe_op op_add (pv 7) (pv 10)) pa_nil))) (pw_and1 (pt_val (pe_kc (k_is_near T) (by decide) hr (by rfl) pass0 (pa_cons (pe_op op_add (pv 8) (pv 11)) pa_nil)))))))))) (pss_one (ps_raise rfl (takes_of rfl rfl rfl rfl) (pmk_ko (k_OutOfRange_init T) (by decide) hr (by rfl) pass0 (pa_cons (pv 2) pa_nil)))) pss_nil)
      (pss_cons (ps_expr (pe_bm PySem.F.plainAttrs_list PySem.F.slot_list_append PySem.F.type_list_append mt_append (pv 6) (pa_cons (pe_tup (pa_cons (pe_op op_add (pv 7) (pv 10)) (pa_cons (pe_op op_add (pv 8) (pv 11)) (pa_cons (pv 9) pa_nil)))) pa_nil)))
      (pss_one (ps_aug (i := 4) sc_moved_outline.nd rfl (.inl rfl) pe_int ip_add))))))
      (pss_one (ps_expr (pe_bm PySem.F.plainAttrs_list PySem.F.slot_list_append PySem.F.type_list_append mt_append (pv 3) (pa_cons (pv 6) pa_nil)))))))
      (pss_one (ps_ret (pv 3)))))), ?_⟩
  obtain ⟨vo, vm, n, o, m, rfl, d, hm, szm, ok, g, gx⟩ := h
  obtain ⟨a, xs, rfl, ha, hx⟩ := dp_out d
  have lx := dps_mlen hx
  obtain ⟨am, xm, dm, kvs, rfl, hmv⟩ := id hm
  walk_at "go"
  intro p H1 s1 n1 e1
  have ha1 := s1.seq ha
  walk_at "go"
  refine for_at xs.length (fun i σ' H' => Same H H' ∧ ∃ (done : Outl) (ix : Int) (y5 y6 y7 y8 y9 y10 y11 : Option V), σ' = [some (.ref a), some (.ref am), some (.int n), some (.ref p), some (.int ix), y5, y6, y7, y8, y9, y10, y11] ∧ Lst K H p H' (done.map conD) ∧ done.length = i ∧ mvO m 0 o = (mvO m ix (o.drop i)).map (done ++ ·))
    ⟨s1, [], 0, _, _, _, _, _, _, _, rfl, Lst.start n1 e1, rfl, by simp⟩ (fun i σ' H' lt F => ?_) (fun σ' H' F => ?_)
  · obtain ⟨s, done, ix, y5, y6, y7, y8, y9, y10, y11, rfl, L, ld, em⟩ := F
    have Z := walk_list (s.seq ha)
    refine ⟨Z.go _ _ (Same.refl _) lt, fun x H3 yy => ?_⟩
    obtain ⟨s3, e⟩ := Z.yld _ _ _ _ (Same.refl _) lt yy
    have s := s.trans s3
    have L := L.keep s3
    obtain ⟨c, mc, dc⟩ := dps_map hx e
    have mcm := List.mem_of_getElem? mc
    have edrop := drop_at mc
    obtain ⟨b, ys, rfl, hb, hy⟩ := dp_con (s.dp dc)
    have ly := dps_mlen hy
    have hp3 : H3 p ≠ none := by
      obtain ⟨_, acc, e, _⟩ := L
      rw [e]
      intro z
      cases z
    walk_at "go"
    intro q H4 s4 n4 e4
    walk_at "go"
    refine for_at ys.length (fun j σ' H' => Same H3 H' ∧ ∃ (cd : List Pt) (jx : Int) (y7 y8 y9 y10 y11 : Option V), σ' = [some (.ref a), some (.ref am), some (.int n), some (.ref p), some (.int jx), some (.ref b), some (.ref q), y7, y8, y9, y10, y11] ∧ jx = ix + j ∧ Lst K H3 q H' (cd.map ptD) ∧ cd.length = j ∧ mvC m ix c = (mvC m jx (c.drop j)).map (cd ++ ·))
      ⟨s4, [], ix, _, _, _, _, _, rfl, by simp, Lst.start n4 e4, rfl, by simp⟩ (fun j σ' H' lt F => ?_) (fun σ' H' F => ?_)
    · obtain ⟨s5, cd, jx, y7, y8, y9, y10, y11, rfl, ej, L2, lcd, ec⟩ := F
      have Z := walk_list (s5.seq hb)
      refine ⟨Z.go _ _ (Same.refl _) lt, fun x H6 yy => ?_⟩
      obtain ⟨s56, e⟩ := Z.yld _ _ _ _ (Same.refl _) lt yy
      have s6 := s5.trans s56
      have L2 := L2.keep s56
      have sA := s.trans s6
      obtain ⟨pt, mp, dpt⟩ := dps_map hy e
      have cdrop := drop_at mp
      obtain ⟨t, rfl, ht⟩ := dp_point (s6.dp dpt)
      have hmA := hm.same sA
      obtain ⟨am', xm', dm', kvs', em', h0m, h1m, h2m⟩ := id hmA
      cases em'
      walk_at "go"
      refine ⟨_, jx, m, rfl, hmA, szm, fun v7 H7 s7 d7 => ?_⟩
      obtain ⟨tb, rfl, htb⟩ := dp_pair d7
      have h0m := s7 _ _ h0m
      have sB := sA.trans s7
      have L2 := L2.keep s7
      walk_at "go"
      refine ⟨_, jx, m, rfl, hmA.same s7, ?_⟩
      walk_at "go"
      by_cases hbad : badPt m jx pt
      · have none1 : mvO m 0 o = none := by
          rw [em, edrop, mvO, ec, cdrop, mvC_bad hbad]
          rfl
        obtain ⟨h1, h2⟩ := hbad
        rw [h1]
        walk_at "go"
        refine ⟨_, rfl, ?_⟩
        refine x_bl ?_
        refine ifD (fun c1 => ?_) (fun c1 => ?_)
        · walk_at "go"
          refine ⟨_, rfl, ?_⟩
          refine x_bl ?_
          walk_at "go"
          refine ifNT (fun c2 => h2 ⟨c1, c2⟩) ?_
          exact x_oor rfl fun d H' s' => gx none1 d H' (sB.trans s')
        · walk_at "go"
          exact x_oor rfl fun d H' s' => gx none1 d H' (sB.trans s')
      · have stepC := mvC_ok1 (r := c.drop (j + 1)) hbad
        refine ifB (fun c0 => ?ca) (fun c0 => ?cb)
        case' ca =>
          walk_at "go"
          have nn : near (pt.1 + (byM m jx).1) ∧ near (pt.2.1 + (byM m jx).2) := Classical.byContradiction fun z => hbad ⟨c0, z⟩
          refine ⟨_, rfl, ?_⟩
          refine x_bl ?_
          refine ifT nn.1 ?_
          walk_at "go"
          refine ⟨_, rfl, ?_⟩
          refine x_bl ?_
          walk_at "go"
          refine ifNF nn.2 ?_
        all_goals
          walk_at "go"
          refine ⟨L2.ty, ?_⟩
          walk_at "go"
          intro u H8 s8 n8 e8
          have hq7 := L2.ne
          have L2 := L2.keep s8
          have d37 : ∀ b, H7 b = none → H3 b = none := same_dom (s6.trans s7)
          have dpu : Dp K (nw H7 H8) (.ref u) (ptD (movedPt m jx pt)) := pt_dp (p := movedPt m jx pt) (SqT.of (by rw [nw_new n8]; exact e8))
          obtain ⟨acc, ea, la, L3⟩ := L2.new d37 hq7 dpu (by rw [List.length_map]; have := (ok.c2 c mcm).2; omega)
          walk_at "go"
          refine x_app ea la ?_
          walk_at "go"
          refine ⟨same_new ((s6.trans s7).trans s8) n4, cd ++ [movedPt m jx pt], jx + 1, _, _, _, _, _, rfl, by omega, by rw [List.map_append]; exact L3, by rw [List.length_append, lcd]; rfl, ?_⟩
          rw [ec, cdrop, stepC, Option.map_map]
          congr 1
          funext r
          simp
    · obtain ⟨s5, cd, jx, y7, y8, y9, y10, y11, rfl, ej, L2, lcd, ec⟩ := F
      refine ⟨(walk_list hb).stop _ s5, ?_⟩
      walk_at "go"
      have L := L.keep s5
      refine ⟨L.ty, ?_⟩
      walk_at "go"
      obtain ⟨acc, ea, la, L3⟩ := L.new (same_dom s) hp3 L2.done (by rw [List.length_map]; have := ok.cs; omega)
      refine x_app ea la ?_
      walk_at "go"
      refine ⟨same_new (s.trans s5) n1, done ++ [cd], jx, _, _, _, _, _, _, _, rfl, by rw [List.map_append]; exact L3, by rw [List.length_append, ld]; rfl, ?_⟩
      rw [List.drop_eq_nil_of_le (by omega)] at ec
      have ec' : mvC m ix c = some cd := by rw [ec]; simp [mvC]
      have ejx : ix + (c.length : Int) = jx := by omega
      rw [em, edrop, mvO, ec']
      simp only
      rw [ejx, Option.map_map]
      congr 1
      funext r
      simp
  · obtain ⟨s, done, ix, y5, y6, y7, y8, y9, y10, y11, rfl, L, ld, em⟩ := F
    refine ⟨(walk_list ha).stop _ s, ?_⟩
    walk_at "go"
    rw [List.drop_eq_nil_of_le (by omega)] at em
    exact g done (by rw [em]; simp [mvO]) _ _ s L.done
end
end Fl
set_option Elab.async false
set_option linter.all false
set_option maxRecDepth 100000
set_option maxHeartbeats 4000000
/-! Glyphs made. -/
namespace Fl
open PySem PySem.Spec PyProof.Rows L2
local macro_rules | `(tactic| walk_at "fx") => `(tactic| first | assumption | solve_by_elim [seqT, Same.trans, Same.seq])
local macro_rules | `(tactic| walk_at "cl") => `(tactic| first | assumption | exact Txt.c_Glyph (by assumption) | exact Txt.c_Font (by assumption) | exact Txt.c_Moves (by assumption))
local macro_rules | `(tactic| walk_at "na") => `(tactic| first | assumption | exact Txt.a_Glyph_advance (by assumption) | exact Txt.a_Glyph_outline (by assumption) | exact Txt.a_Glyph_parts (by assumption) | exact Txt.a_Glyph_anchors (by assumption) | exact Txt.a_Glyph_mark (by assumption) | exact Txt.a_Glyph_deltas (by assumption) | exact Txt.a_Glyph_hint (by assumption) | exact Txt.a_Font_unit (by assumption) | exact Txt.a_Font_glyphs (by assumption) | exact Txt.a_Font_chars (by assumption) | exact Txt.a_Font_lookups (by assumption) | exact Txt.a_Font_features (by assumption) | exact Txt.a_Font_axes (by assumption) | exact Txt.a_Font_regions (by assumption) | exact Txt.a_Font_functions (by assumption) | exact Txt.a_Font_presets (by assumption) | exact Txt.a_Moves_sums (by assumption))
local macro_rules | `(tactic| walk_at "step") => `(tactic| first
  | (with_reducible refine x_c ?_)
  | ((with_reducible show tVar _ _ _ _); refine ⟨_, rfl, ?_⟩)
  | (with_reducible refine x_op ?_) | (with_reducible refine x_seq ?_) | (with_reducible refine x_nx ?_) | (with_reducible refine x_asg ?_) | (with_reducible refine x_name ?_)
  | ((with_reducible show rI0 _ _ _ _ _); refine ⟨_, _, rfl, rfl, ?_⟩)
  | (with_reducible refine x_ret ?_) | (with_reducible refine x_rt ?_) | (with_reducible refine x_ifS ?_) | (with_reducible refine x_test ?_) | (with_reducible refine x_bl ?_)
  | (with_reducible refine x_cons ?_) | (with_reducible refine x_nil ?_) | (with_reducible refine x_call ?_) | (with_reducible refine x_CB ?_)
  | ((with_reducible refine' x_ixT ?h ?e ?q); (case h => walk_at "fx"); (case e => rfl))
  | ((with_reducible refine' x_ixL ?h ?e ?q); (case h => walk_at "fx"); (case e => rfl))
  | (with_reducible refine x_fld ?_)
  | ((with_reducible refine' x_at ?h ?c ?n ?l ?q); (case h => walk_at "fx"); (case c => walk_at "cl"); (case n => walk_at "na"); (case l => rfl))
  | (with_reducible refine x_un ?_) | ((with_reducible show rU _ _ _ _); refine ⟨_, rfl, ?_⟩)
  | (with_reducible refine x_not ?_) | (with_reducible refine x_and ?_) | (with_reducible refine x_or ?_) | (with_reducible refine x_tB ?_) | (with_reducible refine x_andV ?_) | (with_reducible refine x_notV ?_) | (with_reducible refine x_chain ?_) | (with_reducible refine x_chn ?_) | (with_reducible refine x_link ?_) | (with_reducible refine x_last ?_)
  | ((with_reducible refine x_eq ?s ?_); (case s => rfl)) | ((with_reducible refine x_ne ?s ?_); (case s => rfl))
  | (with_reducible refine x_tup ?_) | (with_reducible refine x_lst ?_) | (with_reducible refine x_disp (Nat.le_of_ble_eq_true rfl) ?_)
  | (with_reducible refine x_retN ?_) | (with_reducible refine x_drop ?_) | (with_reducible refine x_next ?_) | (with_reducible refine x_bk ?_) | (with_reducible refine x_ct ?_) | (with_reducible refine x_sfld ?_)
  | ((with_reducible refine' x_gtup ?h ?e ?q); (case h => walk_at "fx"); (case e => rfl)) | ((with_reducible refine' x_gunl ?h ?e ?q); (case h => walk_at "fx"); (case e => rfl))
  | (with_reducible refine x_gcons ?_) | (with_reducible refine x_gnil ?_) | (with_reducible refine x_gsub ?_)
  | (with_reducible refine x_for ?_) | ((with_reducible refine' x_lcSeq ?hv ?h ?q); (case hv => rfl); (case h => assumption)) | (with_reducible refine x_lc ?_) | (with_reducible refine x_yes ?_) | (with_reducible refine x_iList ?_) | (with_reducible refine x_iTup ?_) | (with_reducible refine x_iSeq ?_) | (with_reducible refine x_iZip ?_) | (with_reducible refine x_iEnum ?_) | (with_reducible refine x_iRng1 ?_)
  | ((with_reducible refine' x_itL ?h ?q); (case h => walk_at "fx")) | ((with_reducible refine' x_itT ?h ?q); (case h => walk_at "fx")) | ((with_reducible refine' x_itSL ?h ?q); (case h => walk_at "fx")) | ((with_reducible refine' x_itST ?h ?q); (case h => walk_at "fx"))
  | ((with_reducible refine' x_itZ ?h1 ?h2 ?q); (case h1 => walk_at "fx"); (case h2 => walk_at "fx")) | ((with_reducible refine' x_itE ?h ?q); (case h => walk_at "fx"))
  | ((with_reducible refine' x_lenL ?h ?q); (case h => walk_at "fx")) | ((with_reducible refine' x_lenT ?h ?q); (case h => walk_at "fx"))
  | ((with_reducible refine' x_lofB ?h ?q); (case h => assumption)) | ((with_reducible refine' x_lofL ?h ?q); (case h => walk_at "fx")) | ((with_reducible refine' x_lofT ?h ?q); (case h => walk_at "fx"))
  | ((with_reducible refine' x_augV ?hv ?h); (case hv => rfl)) | (with_reducible refine x_ipI ?_) | (with_reducible refine x_meth ?_) | ((with_reducible refine' x_mt ?h ?l ?q); (case h => walk_at "fx"); (case l => rfl)) | (with_reducible refine x_js ?_) | (with_reducible refine x_js0 ?_) | (with_reducible refine x_fmtI ?_) | (with_reducible refine x_make ?_) | (with_reducible refine x_bm ?_) | (with_reducible refine x_dget2 ?_) | ((with_reducible refine' x_isD ?h ?q); (case h => walk_at "fx")) | ((with_reducible refine' x_dg ?h ?q); (case h => walk_at "fx")) | (with_reducible refine x_din ?_) | ((with_reducible refine' x_dinA ?h ?q); (case h => walk_at "fx")) | (with_reducible refine x_dput ?_) | (with_reducible refine x_makeK ?_)
  | (with_reducible refine iteT ?_) | (with_reducible refine iteF ?_) | (with_reducible refine ifNT' ?_) | (with_reducible refine ifNF' ?_))
local macro_rules | `(tactic| walk_at "go") => `(tactic| repeat walk_at "step")
section
variable {P : Program} {w : World} {K : PySem.W.Frag} {mg : Str → Option Value} {base : Heap}
def spGlyphI (K : PySem.W.Frag) : Sp := fun vs H Q _ => ∃ (x dx : Addr) (H2 G : Hp) (vo vp va vd vh : V) (g : Gd), vs = [.ref x, .int g.adv, vo, vp, va, .bl false, vd, vh] ∧ H = upd (upd H2 dx (.own x)) x (.ins (He.ga K "Glyph") dx []) ∧ H2 x = none ∧ H2 dx = none ∧ dx ≠ x ∧
  Same G H2 ∧ Dp K G vo (outD g.out) ∧ g.out.length ≤ 1000 ∧ SeqD K H2 G vp [] ∧ SeqD K H2 G va [] ∧ SeqD K H2 G vd (g.dl.map t4D) ∧ SeqD K H2 G vh [] ∧ ∀ H', Same H2 H' → GlyphAt K (ext G H2 H') (.ref x) g → Q .non H'
abbrev sc_Glyph_initN : List Str := ["self", "advance", "outline", "parts", "anchors", "mark", "deltas", "hint", "contour"]
theorem sc_Glyph_init : FnScope sc_Glyph_initN ["self", "advance", "outline", "parts", "anchors", "mark", "deltas", "hint"] (defScope s_Glyph_init) := ⟨rfl, rfl, rfl, by decide +kernel, rfl, by decide +kernel, by decide +kernel⟩
theorem ok_Glyph_init (T : Txt K mg) {fd : FuncData} (F : FunD K "__init__" "Glyph.__init__" (defArgs s_Glyph_init) (defBody s_Glyph_init) (defScope s_Glyph_init) (He.DefD.dvs K d_Glyph_init) (He.DefD.kws K d_Glyph_init) (He.fAd K ("Glyph", some "__init__")) fd) :
    FnOk P w K mg base CX0 1 (He.fAd K ("Glyph", some "__init__")) fd ["self", "advance", "outline", "parts", "anchors", "mark", "deltas", "hint"] (spGlyphI K) := by
  refine ok0 F sc_Glyph_init (fun vs H Q E h => ?_) (fun cdv A outer s H vs Q E hr h => ?_)
  · obtain ⟨_, _, _, _, _, _, _, _, _, _, rfl, _⟩ := h
    rfl
  obtain ⟨x, dx, H2, G, vo, vp, va, vd, vh, g, rfl, rfl, nx, ndx, ne, sG, dvo, lo, dvp, dva, dvd, dvh, q⟩ := h
  have w0 := Own.start (C := He.ga K "Glyph") nx ndx
  obtain ⟨H, eH⟩ : ∃ H, H = upd (upd H2 dx (.own x)) x (.ins (He.ga K "Glyph") dx []) := ⟨_, rfl⟩
  rw [← eH] at w0 ⊢
  refine ⟨_, (pss_cons (ps_fld (pv 0) (pv 1) rfl)
      (pss_cons (ps_fld (pv 0) (pe_lc (own := [("contour", 8)]) (tt := tYes) rfl sc_Glyph_init.nd (pi_list (pv 2)) (blkOk_by (N := sc_Glyph_initN) (sc := (defScope s_Glyph_init)) (by decide +kernel)) (fun _ _ _ _ _ => (pg_name (i := 8) sc_Glyph_init.nd rfl (.inl rfl))) (fun _ _ _ _ _ => pts_nil) (fun _ _ _ _ _ => (pe_callTy (lofK K rfl) (by rfl) (Txt.n_list T) (by decide +kernel) (pa_cons (pv 8) pa_nil)))) rfl)
      (pss_cons (ps_fld (pv 0) (pe_callTy (lofK K rfl) (by rfl) (Txt.n_list T) (by decide +kernel) (pa_cons (pv 3) pa_nil)) rfl)
      (pss_cons (ps_fld (pv 0) (pe_callTy (lofK K rfl) (by rfl) (Txt.n_list T) (by decide +kernel) (pa_cons (pv 4) pa_nil)) rfl)
      (pss_cons (ps_fld (pv 0) (pv 5) rfl)
      (pss_cons (ps_fld (pv 0) (pe_callTy (lofK K rfl) (by rfl) (Txt.n_list T) (by decide +kernel) (pa_cons (pv 6) pa_nil)) rfl)
      (pss_one (ps_fld (pv 0) (pe_callTy (lofK K rfl) (by rfl) (Txt.n_list T) (by decide +kernel) (pa_cons (pv 7) pa_nil)) rfl)))))))), ?_⟩
  walk_at "go"
  refine x_fst w0 (Txt.c_Glyph T) (Txt.a_Glyph_advance T) (Nat.le_of_ble_eq_true rfl) rfl fun H1 w1 k1 j1 _ => ?_
  obtain ⟨ao, oxs, rfl, hao, hox⟩ := dp_out dvo
  have hao1 := (sG.trans w1.2.1).seq hao
  have lx := dps_mlen hox
  walk_at "go"
  intro L nL
  refine lc_obj (fun H v d => Dp K H v d) (fun _ _ _ _ s h => s.dp h) G (sG.trans w1.2.1) (g.out.map conD) (walk_list hao1) (by rw [List.length_map, lx]) (by omega) nL (fun i y H3 lt s3 e P cl => ?_) (fun H3 acc s3 hL hp => ?_)
  · obtain ⟨c, mc, dc⟩ := dps_map hox e
    obtain ⟨b, ys, rfl, hb, hy⟩ := dp_con dc
    have hb3 := ((sG.trans w1.2.1).trans s3).seq hb
    walk_at "go"
    refine ⟨rfl, ?_⟩
    walk_at "go"
    intro l H4 s4 n4 e4
    refine cl _ _ (conD c) s4 (by rw [List.getElem?_map, mc]; rfl) ?_
    exact .lst (SqL.of (by rw [ext_new n4]; exact e4)) ((sub_ext ((sG.trans w1.2.1).trans s3)).dps hy)
  have dO := obj_dp nL hL hp
  have dO : Dp K (ext G H2 H3) (.ref L) (outD g.out) := by
    refine Same.dp (fun b o z => ?_) dO
    cases q1 : H1 b with
    | none =>
      rw [ext_new q1] at z
      rw [ext_new (free_of w1.2.1 q1)]
      exact z
    | some u =>
      rw [ext_old q1] at z
      rw [ext_old (sG _ _ z)]
      exact z
  have w3 := w1.keep s3
  walk_at "go"
  refine x_fst w3 (Txt.c_Glyph T) (Txt.a_Glyph_outline T) (Nat.le_of_ble_eq_true rfl) rfl fun H4 w4 k4 j4 _ => ?_
  have dO := k4 _ _ _ dO
  obtain ⟨ap, pxs, rfl, hp1, hp2⟩ := (dvp.same w4.2.1)
  cases dps_nil hp2
  walk_at "go"
  intro l5 H5 s5 n5 e5
  have dP : Dp K (ext G H2 H5) (.ref l5) (.list []) := .lst (SqL.of (by rw [ext_new (free_of w4.2.1 n5)]; exact e5)) .nil
  have dO := (ext_mono s5).dp dO
  walk_at "go"
  refine x_fst (w4.keep s5) (Txt.c_Glyph T) (Txt.a_Glyph_parts T) (Nat.le_of_ble_eq_true rfl) rfl fun H6 w6 k6 j6 _ => ?_
  have dO := k6 _ _ _ dO
  have dP := k6 _ _ _ dP
  obtain ⟨aa, axs, rfl, ha1, ha2⟩ := (dva.same w6.2.1)
  cases dps_nil ha2
  walk_at "go"
  intro l7 H7 s7 n7 e7
  have dA : Dp K (ext G H2 H7) (.ref l7) (.list []) := .lst (SqL.of (by rw [ext_new (free_of w6.2.1 n7)]; exact e7)) .nil
  have dO := (ext_mono s7).dp dO
  have dP := (ext_mono s7).dp dP
  walk_at "go"
  refine x_fst (w6.keep s7) (Txt.c_Glyph T) (Txt.a_Glyph_anchors T) (Nat.le_of_ble_eq_true rfl) rfl fun H8 w8 k8 j8 _ => ?_
  have dO := k8 _ _ _ dO
  have dP := k8 _ _ _ dP
  have dA := k8 _ _ _ dA
  walk_at "go"
  refine x_fst w8 (Txt.c_Glyph T) (Txt.a_Glyph_mark T) (Nat.le_of_ble_eq_true rfl) rfl fun H9 w9 k9 j9 _ => ?_
  have dO := k9 _ _ _ dO
  have dP := k9 _ _ _ dP
  have dA := k9 _ _ _ dA
  obtain ⟨ad, dxs, rfl, hd1, hd2⟩ := (dvd.same w9.2.1)
  walk_at "go"
  intro lA HA sA nA eA
  have dD : Dp K (ext G H2 HA) (.ref lA) (.list (g.dl.map t4D)) := .lst (SqL.of (by rw [ext_new (free_of w9.2.1 nA)]; exact eA)) ((sub_ext sG).dps hd2)
  have dO := (ext_mono sA).dp dO
  have dP := (ext_mono sA).dp dP
  have dA := (ext_mono sA).dp dA
  walk_at "go"
  refine x_fst (w9.keep sA) (Txt.c_Glyph T) (Txt.a_Glyph_deltas T) (Nat.le_of_ble_eq_true rfl) rfl fun HB wB kB jB _ => ?_
  have dO := kB _ _ _ dO
  have dP := kB _ _ _ dP
  have dA := kB _ _ _ dA
  have dD := kB _ _ _ dD
  obtain ⟨ah, hxs, rfl, hh1, hh2⟩ := (dvh.same wB.2.1)
  cases dps_nil hh2
  walk_at "go"
  intro lC HC sC nC eC
  have dH : Dp K (ext G H2 HC) (.ref lC) (.list []) := .lst (SqL.of (by rw [ext_new (free_of wB.2.1 nC)]; exact eC)) .nil
  have dO := (ext_mono sC).dp dO
  have dP := (ext_mono sC).dp dP
  have dA := (ext_mono sC).dp dA
  have dD := (ext_mono sC).dp dD
  walk_at "go"
  refine x_fst (wB.keep sC) (Txt.c_Glyph T) (Txt.a_Glyph_hint T) (Nat.le_of_ble_eq_true rfl) rfl fun HD wD kD jD _ => ?_
  walk_at "go"
  exact q _ wD.2.1 ⟨x, dx, _, _, _, _, _, rfl, by rw [ext_new nx]; exact wD.2.2, kD _ _ _ dO, kD _ _ _ dP, kD _ _ _ dA, kD _ _ _ dD, kD _ _ _ dH⟩
/-! the three ways it is called -/
theorem k_make_Glyph_2_parts_anchors_mark_deltas_hint (T : Txt K mg) : KeptC P w K mg base CX0 1 "Glyph" (He.ga K "Glyph") 2 ["parts", "anchors", "mark", "deltas", "hint"] (fun vs zs => vs ++ zs) (spGlyphI K) := by
  obtain ⟨fd, F⟩ := T.f_Glyph_init
  obtain ⟨mv, h⟩ := F.kbinds0 (ps := ["self", "advance", "outline", "parts", "anchors", "mark", "deltas", "hint"]) 3 ["parts", "anchors", "mark", "deltas", "hint"] [] (fun vs _ zs => vs ++ zs) (by intro z; cases z) (fun q hq => by cases hq) (fun r1 _ r3 => vals_app r1 r3)
    fun D doc pm an cdv ct us mv ws l1 l2 l3 => match us, mv, ws, l1, l2, l3 with
      | [_, _, _], [], [_, _, _, _, _], _, _, _ => rfl
  exact ⟨_, fd, _, _, T.g_Glyph, Txt.m_Glyph T, h, ok_Glyph_init T F⟩
theorem k_make_Glyph_2_parts_anchors_mark_hint (T : Txt K mg) : KeptC P w K mg base CX0 1 "Glyph" (He.ga K "Glyph") 2 ["parts", "anchors", "mark", "hint"] (fun vs zs => vs ++ zs.take 3 ++ [.ref (kwdAt ("Glyph", some "__init__") "deltas" K)] ++ zs.drop 3) (spGlyphI K) := by
  obtain ⟨fd, F⟩ := T.f_Glyph_init
  obtain ⟨mv, h⟩ := F.kbinds0 (ps := ["self", "advance", "outline", "parts", "anchors", "mark", "deltas", "hint"]) 3 ["parts", "anchors", "mark", "hint"] [("deltas", .ref (kwdAt ("Glyph", some "__init__") "deltas" K))] (fun vs ms zs => vs ++ zs.take 3 ++ ms ++ zs.drop 3) (by intro z; cases z)
    (fun q hq => by rw [List.mem_singleton.mp hq]; exact .tail _ (.tail _ (.tail _ (.head _)))) (fun r1 r2 r3 => vals_app (vals_app (vals_app r1 (vals_take 3 r3)) r2) (vals_drop 3 r3))
    fun D doc pm an cdv ct us mv ws l1 l2 l3 => match us, mv, ws, l1, l2, l3 with
      | [_, _, _], [_], [_, _, _, _], _, _, _ => ⟨_, _, _, _, _, _, rfl, rfl, rfl⟩
  exact ⟨_, fd, _, _, T.g_Glyph, Txt.m_Glyph T, h, ok_Glyph_init T F⟩
theorem k_make_Glyph_2_deltas (T : Txt K mg) : KeptC P w K mg base CX0 1 "Glyph" (He.ga K "Glyph") 2 ["deltas"] (fun vs zs => vs ++ [.ref (kwdAt ("Glyph", some "__init__") "parts" K), .ref (kwdAt ("Glyph", some "__init__") "anchors" K), .bl false] ++ zs ++ [.ref (kwdAt ("Glyph", some "__init__") "hint" K)]) (spGlyphI K) := by
  obtain ⟨fd, F⟩ := T.f_Glyph_init
  obtain ⟨mv, h⟩ := F.kbinds0 (ps := ["self", "advance", "outline", "parts", "anchors", "mark", "deltas", "hint"]) 3 ["deltas"] [("parts", .ref (kwdAt ("Glyph", some "__init__") "parts" K)), ("anchors", .ref (kwdAt ("Glyph", some "__init__") "anchors" K)), ("mark", .bl false), ("hint", .ref (kwdAt ("Glyph", some "__init__") "hint" K))] (fun vs ms zs => vs ++ ms.take 3 ++ zs ++ ms.drop 3) (by intro z; cases z)
    (fun q hq => by
      rcases List.mem_cons.mp hq with e | hq
      · rw [e]; exact .head _
      rcases List.mem_cons.mp hq with e | hq
      · rw [e]; exact .tail _ (.head _)
      rcases List.mem_cons.mp hq with e | hq
      · rw [e]; exact .tail _ (.tail _ (.head _))
      rw [List.mem_singleton.mp hq]
      exact .tail _ (.tail _ (.tail _ (.tail _ (.head _))))) (fun r1 r2 r3 => vals_app (vals_app (vals_app r1 (vals_take 3 r2)) r3) (vals_drop 3 r2))
    fun D doc pm an cdv ct us mv ws l1 l2 l3 => match us, mv, ws, l1, l2, l3 with
      | [_, _, _], [_, _, _, _], [_], _, _, _ => ⟨_, _, _, _, _, _, rfl, rfl, _, _, _, _, _, _, rfl, rfl, _, _, _, _, _, _, rfl, rfl, _, _, _, _, _, _, rfl, rfl, rfl⟩
  exact ⟨_, fd, _, _, T.g_Glyph, Txt.m_Glyph T, h, ok_Glyph_init T F⟩
/-! ### copied_glyph -/
def spCopied (K : PySem.W.Frag) : Sp := fun vs H Q _ => ∃ (v : V) (G : Hp) (g : Gd), vs = [v] ∧ Same G H ∧ GlyphAt K G v g ∧ g.out.length ≤ 1000 ∧ ∀ v H', Same H H' → GlyphAt K (ext G H H') v g → Q v H'
abbrev sc_copied_glyphN : List Str := ["glyph"]
theorem sc_copied_glyph : FnScope sc_copied_glyphN ["glyph"] (defScope s_copied_glyph) := ⟨rfl, rfl, rfl, by decide +kernel, rfl, by decide +kernel, by decide +kernel⟩
theorem k_copied_glyph (T : Txt K mg) : Kept P w K mg base CX0 3 "copied_glyph" ["glyph"] [] (spCopied K) := by
  obtain ⟨fd, F⟩ := T.f_copied_glyph
  refine ⟨_, fd, [], T.g_copied_glyph, F.kp, F.bindsN (ps := ["glyph"]) (fun _ _ _ _ _ _ us hl => match us, hl with | [_], _ => rfl), .nil, ?_⟩
  refine ok0 F sc_copied_glyph (fun vs H Q E h => ?_) (fun cdv A outer s H vs Q E hr h => ?_)
  · obtain ⟨v, G, gg, rfl, _⟩ := h
    rfl
  refine ⟨_, (pss_one (ps_ret (pe_kk (k_make_Glyph_2_parts_anchors_mark_deltas_hint T) (by decide) hr (by rfl) pass0 (pa_cons (pe_fld (pv 0) rfl) (pa_cons (pe_fld (pv 0) rfl) pa_nil)) (pk_cons (pe_fld (pv 0) rfl) (pk_cons (pe_fld (pv 0) rfl) (pk_cons (pe_fld (pv 0) rfl) (pk_cons (pe_fld (pv 0) rfl) (pk_cons (pe_fld (pv 0) rfl) pk_nil)))))))), ?_⟩
  obtain ⟨v, G, g, rfl, sG, hg, lo, q⟩ := h
  obtain ⟨a, dx, vo, vp, va, vd, vh, rfl, h0, h1, h2, h3, h4, h5⟩ := hg
  have h0 := sG _ _ h0
  walk_at "go"
  refine ⟨rfl, rfl, fun x dx' nx nd ne => ?_⟩
  have sv : ∀ {v : V} {ds : List PyData}, Dp K G v (.list ds) → SeqD K H G v ds := fun h => (SeqD.of h).same sG
  exact ⟨x, dx', H, G, vo, vp, va, vd, vh, g, rfl, rfl, nx, nd, ne, sG, h1, lo, sv h2, sv h3, sv h4, sv h5, fun H' s' hg' => ⟨rfl, q _ _ s' hg'⟩⟩
end
end Fl
set_option Elab.async false
set_option linter.all false
set_option maxRecDepth 100000
set_option maxHeartbeats 4000000
/-! Fonts made. -/
namespace Fl
open PySem PySem.Spec PyProof.Rows L2
local macro_rules | `(tactic| walk_at "fx") => `(tactic| first | assumption | solve_by_elim [seqT, Same.trans, Same.seq])
local macro_rules | `(tactic| walk_at "cl") => `(tactic| first | assumption | exact Txt.c_Glyph (by assumption) | exact Txt.c_Font (by assumption) | exact Txt.c_Moves (by assumption))
local macro_rules | `(tactic| walk_at "na") => `(tactic| first | assumption | exact Txt.a_Glyph_advance (by assumption) | exact Txt.a_Glyph_outline (by assumption) | exact Txt.a_Glyph_parts (by assumption) | exact Txt.a_Glyph_anchors (by assumption) | exact Txt.a_Glyph_mark (by assumption) | exact Txt.a_Glyph_deltas (by assumption) | exact Txt.a_Glyph_hint (by assumption) | exact Txt.a_Font_unit (by assumption) | exact Txt.a_Font_glyphs (by assumption) | exact Txt.a_Font_chars (by assumption) | exact Txt.a_Font_lookups (by assumption) | exact Txt.a_Font_features (by assumption) | exact Txt.a_Font_axes (by assumption) | exact Txt.a_Font_regions (by assumption) | exact Txt.a_Font_functions (by assumption) | exact Txt.a_Font_presets (by assumption) | exact Txt.a_Moves_sums (by assumption))
local macro_rules | `(tactic| walk_at "step") => `(tactic| first
  | (with_reducible refine x_c ?_)
  | ((with_reducible show tVar _ _ _ _); refine ⟨_, rfl, ?_⟩)
  | (with_reducible refine x_op ?_) | (with_reducible refine x_seq ?_) | (with_reducible refine x_nx ?_) | (with_reducible refine x_asg ?_) | (with_reducible refine x_name ?_)
  | ((with_reducible show rI0 _ _ _ _ _); refine ⟨_, _, rfl, rfl, ?_⟩)
  | (with_reducible refine x_ret ?_) | (with_reducible refine x_rt ?_) | (with_reducible refine x_ifS ?_) | (with_reducible refine x_test ?_) | (with_reducible refine x_bl ?_)
  | (with_reducible refine x_cons ?_) | (with_reducible refine x_nil ?_) | (with_reducible refine x_call ?_) | (with_reducible refine x_CB ?_)
  | ((with_reducible refine' x_ixT ?h ?e ?q); (case h => walk_at "fx"); (case e => rfl))
  | ((with_reducible refine' x_ixL ?h ?e ?q); (case h => walk_at "fx"); (case e => rfl))
  | (with_reducible refine x_fld ?_)
  | ((with_reducible refine' x_at ?h ?c ?n ?l ?q); (case h => walk_at "fx"); (case c => walk_at "cl"); (case n => walk_at "na"); (case l => rfl))
  | (with_reducible refine x_un ?_) | ((with_reducible show rU _ _ _ _); refine ⟨_, rfl, ?_⟩)
  | (with_reducible refine x_not ?_) | (with_reducible refine x_and ?_) | (with_reducible refine x_or ?_) | (with_reducible refine x_tB ?_) | (with_reducible refine x_andV ?_) | (with_reducible refine x_notV ?_) | (with_reducible refine x_chain ?_) | (with_reducible refine x_chn ?_) | (with_reducible refine x_link ?_) | (with_reducible refine x_last ?_)
  | ((with_reducible refine x_eq ?s ?_); (case s => rfl)) | ((with_reducible refine x_ne ?s ?_); (case s => rfl))
  | (with_reducible refine x_tup ?_) | (with_reducible refine x_lst ?_) | (with_reducible refine x_disp (Nat.le_of_ble_eq_true rfl) ?_)
  | (with_reducible refine x_retN ?_) | (with_reducible refine x_drop ?_) | (with_reducible refine x_next ?_) | (with_reducible refine x_bk ?_) | (with_reducible refine x_ct ?_) | (with_reducible refine x_sfld ?_)
  | ((with_reducible refine' x_gtup ?h ?e ?q); (case h => walk_at "fx"); (case e => rfl)) | ((with_reducible refine' x_gunl ?h ?e ?q); (case h => walk_at "fx"); (case e => rfl))
  | (with_reducible refine x_gcons ?_) | (with_reducible refine x_gnil ?_) | (with_reducible refine x_gsub ?_)
  | (with_reducible refine x_for ?_) | ((with_reducible refine' x_lcSeq ?hv ?h ?q); (case hv => rfl); (case h => assumption)) | (with_reducible refine x_lc ?_) | (with_reducible refine x_yes ?_) | (with_reducible refine x_iList ?_) | (with_reducible refine x_iTup ?_) | (with_reducible refine x_iSeq ?_) | (with_reducible refine x_iZip ?_) | (with_reducible refine x_iEnum ?_) | (with_reducible refine x_iRng1 ?_)
  | ((with_reducible refine' x_itL ?h ?q); (case h => walk_at "fx")) | ((with_reducible refine' x_itT ?h ?q); (case h => walk_at "fx")) | ((with_reducible refine' x_itSL ?h ?q); (case h => walk_at "fx")) | ((with_reducible refine' x_itST ?h ?q); (case h => walk_at "fx"))
  | ((with_reducible refine' x_itZ ?h1 ?h2 ?q); (case h1 => walk_at "fx"); (case h2 => walk_at "fx")) | ((with_reducible refine' x_itE ?h ?q); (case h => walk_at "fx"))
  | ((with_reducible refine' x_lenL ?h ?q); (case h => walk_at "fx")) | ((with_reducible refine' x_lenT ?h ?q); (case h => walk_at "fx"))
  | ((with_reducible refine' x_lofB ?h ?q); (case h => assumption)) | ((with_reducible refine' x_lofL ?h ?q); (case h => walk_at "fx")) | ((with_reducible refine' x_lofT ?h ?q); (case h => walk_at "fx"))
  | ((with_reducible refine' x_augV ?hv ?h); (case hv => rfl)) | (with_reducible refine x_ipI ?_) | (with_reducible refine x_meth ?_) | ((with_reducible refine' x_mt ?h ?l ?q); (case h => walk_at "fx"); (case l => rfl)) | (with_reducible refine x_js ?_) | (with_reducible refine x_js0 ?_) | (with_reducible refine x_fmtI ?_) | (with_reducible refine x_make ?_) | (with_reducible refine x_bm ?_) | (with_reducible refine x_dget2 ?_) | ((with_reducible refine' x_isD ?h ?q); (case h => walk_at "fx")) | ((with_reducible refine' x_dg ?h ?q); (case h => walk_at "fx")) | (with_reducible refine x_din ?_) | ((with_reducible refine' x_dinA ?h ?q); (case h => walk_at "fx")) | (with_reducible refine x_dput ?_) | (with_reducible refine x_makeK ?_)
  | (with_reducible refine iteT ?_) | (with_reducible refine iteF ?_) | (with_reducible refine ifNT' ?_) | (with_reducible refine ifNF' ?_))
local macro_rules | `(tactic| walk_at "go") => `(tactic| repeat walk_at "step")
section
variable {P : Program} {w : World} {K : PySem.W.Frag} {mg : Str → Option Value} {base : Heap}
def spFontI (K : PySem.W.Frag) : Sp := fun vs H Q _ => ∃ (x dx gl : Addr) (H2 : Hp) (gvs : List V) (vc vl vf va vr vu vp : V) (f : Fd), vs = [.ref x, .int 100, .ref gl, vc, vl, vf, va, vr, vu, vp] ∧ H = upd (upd H2 dx (.own x)) x (.ins (He.ga K "Font") dx []) ∧ H2 x = none ∧ H2 dx = none ∧ dx ≠ x ∧
  SqL K H2 gl gvs ∧ Paired (GlyphAt K H2) gvs f.gs ∧ SeqD K H2 H2 vc [] ∧ SeqD K H2 H2 vl [] ∧ SeqD K H2 H2 vf [] ∧ SeqD K H2 H2 va (f.axes.map t3D) ∧ SeqD K H2 H2 vr (f.regs.map regD) ∧ SeqD K H2 H2 vu [] ∧ SeqD K H2 H2 vp [] ∧ FOk f ∧ ∀ H', Same H2 H' → FontAt K H' (.ref x) f → Q .non H'
theorem glyphs_keep {x : Addr} {H H' : Hp} {gvs : List V} {gs : List Gd} (s : ∀ b o, b ≠ x → H b = some o → H' b = some o) (h : Paired (GlyphAt K (era x H)) gvs gs) : Paired (GlyphAt K (era x H')) gvs gs :=
  pair_mono (fun _ _ q => GlyphAt.same (fun b o e => by
    by_cases hb : b = x
    · rw [show era x H b = none from if_pos hb] at e
      cases e
    · rw [era_ne hb] at e
      exact era_of hb (s b o hb e)) q) h
theorem ne_x {x : Addr} {H H' : Hp} (s : Same H H') : ∀ b o, b ≠ x → H b = some o → H' b = some o := fun b o _ e => s b o e
abbrev sc_Font_initN : List Str := ["self", "unit", "glyphs", "chars", "lookups", "features", "axes", "regions", "functions", "presets", "glyph", "lookup", "name", "numbers", "region", "instructions"]
theorem sc_Font_init : FnScope sc_Font_initN ["self", "unit", "glyphs", "chars", "lookups", "features", "axes", "regions", "functions", "presets"] (defScope s_Font_init) := ⟨rfl, rfl, rfl, by decide +kernel, rfl, by decide +kernel, by decide +kernel⟩
theorem ok_Font_init (T : Txt K mg) {fd : FuncData} (F : FunD K "__init__" "Font.__init__" (defArgs s_Font_init) (defBody s_Font_init) (defScope s_Font_init) (He.DefD.dvs K d_Font_init) (He.DefD.kws K d_Font_init) (He.fAd K ("Font", some "__init__")) fd) :
    FnOk P w K mg base CX0 5 (He.fAd K ("Font", some "__init__")) fd ["self", "unit", "glyphs", "chars", "lookups", "features", "axes", "regions", "functions", "presets"] (spFontI K) := by
  refine ok0 F sc_Font_init (fun vs H Q E h => ?_) (fun cdv A outer s H vs Q E hr h => ?_)
  · obtain ⟨_, _, _, _, _, _, _, _, _, _, _, _, _, rfl, _⟩ := h
    rfl
  obtain ⟨x, dx, gl, H2, gvs, vc, vl, vf, va, vr, vu, vp, f, rfl, rfl, nx, ndx, ne, hgl, hgs, dvc, dvl, dvf, dva, dvr, dvu, dvp, fok, q⟩ := h
  have w0 := Own.start (C := He.ga K "Font") nx ndx
  obtain ⟨H, eH⟩ : ∃ H, H = upd (upd H2 dx (.own x)) x (.ins (He.ga K "Font") dx []) := ⟨_, rfl⟩
  rw [← eH] at w0 ⊢
  have lg := pair_len hgs
  have g2 := fok.g2
  have r4 := fok.r4
  refine ⟨_, (pss_cons (ps_fld (pv 0) (pv 1) rfl)
      (pss_cons (ps_fld (pv 0) (pe_lc (own := [("glyph", 10)]) (tt := tYes) rfl sc_Font_init.nd (pi_list (pv 2)) (blkOk_by (N := sc_Font_initN) (sc := (defScope s_Font_init)) (by decide +kernel)) (fun _ _ _ _ _ => (pg_name (i := 10) sc_Font_init.nd rfl (.inl rfl))) (fun _ _ _ _ _ => pts_nil) (fun _ _ _ _ _ => (pe_kc (k_copied_glyph T) (by decide) hr (by rfl) pass0 (pa_cons (pv 10) pa_nil)))) rfl)
      (pss_cons (ps_fld (pv 0) (pe_callTy (lofK K rfl) (by rfl) (Txt.n_list T) (by decide +kernel) (pa_cons (pv 3) pa_nil)) rfl)
      (pss_cons (ps_fld (pv 0) (pe_lc (own := [("lookup", 11)]) (tt := tYes) rfl sc_Font_init.nd (pi_seq (pv 4)) (blkOk_by (N := sc_Font_initN) (sc := (defScope s_Font_init)) (by decide +kernel)) (fun _ _ _ _ _ => (pg_name (i := 11) sc_Font_init.nd rfl (.inl rfl))) (fun _ _ _ _ _ => pts_nil) (fun _ _ _ _ _ => pe_no)) rfl)
      (pss_cons (ps_fld (pv 0) (pe_lc (own := [("name", 12), ("numbers", 13)]) (tt := tYes) rfl sc_Font_init.nd (pi_seq (pv 5)) (blkOk_by (N := sc_Font_initN) (sc := (defScope s_Font_init)) (by decide +kernel)) (fun _ _ _ _ _ => (pg_t2 K rfl (i := 12) (j := 13) rfl sc_Font_init.nd rfl rfl (.inl rfl) (.inl rfl) (.inr rfl) (.inr rfl))) (fun _ _ _ _ _ => pts_nil) (fun _ _ _ _ _ => (pe_tup (pa_cons (pv 12) (pa_cons (pe_callTy (lofK K rfl) (by rfl) (Txt.n_list T) (by decide +kernel) (pa_cons (pv 13) pa_nil)) pa_nil))))) rfl)
      (pss_cons (ps_fld (pv 0) (pe_callTy (lofK K rfl) (by rfl) (Txt.n_list T) (by decide +kernel) (pa_cons (pv 6) pa_nil)) rfl)
      (pss_cons (ps_fld (pv 0) (pe_lc (own := [("region", 14)]) (tt := tYes) rfl sc_Font_init.nd (pi_seq (pv 7)) (blkOk_by (N := sc_Font_initN) (sc := (defScope s_Font_init)) (by decide +kernel)) (fun _ _ _ _ _ => (pg_name (i := 14) sc_Font_init.nd rfl (.inl rfl))) (fun _ _ _ _ _ => pts_nil) (fun _ _ _ _ _ => (pe_callTy (lofK K rfl) (by rfl) (Txt.n_list T) (by decide +kernel) (pa_cons (pv 14) pa_nil)))) rfl)
      (pss_cons (ps_fld (pv 0) (pe_lc (own := [("instructions", 15)]) (tt := tYes) rfl sc_Font_init.nd (pi_seq (pv 8)) (blkOk_by (N := sc_Font_initN) (sc := (defScope s_Font_init)) (by decide +kernel)) (fun _ _ _ _ _ => (pg_name (i := 15) sc_Font_init.nd rfl (.inl rfl))) (fun _ _ _ _ _ => pts_nil) (fun _ _ _ _ _ => (pe_callTy (lofK K rfl) (by rfl) (Txt.n_list T) (by decide +kernel) (pa_cons (pv 15) pa_nil)))) rfl)
      (pss_cons (ps_fld (pv 0) (pe_callTy (lofK K rfl) (by rfl) (Txt.n_list T) (by decide +kernel) (pa_cons (pv 9) pa_nil)) rfl)
      (pss_cons (ps_expr (pe_km0 (k_Font_check_glyphs T) (by decide) hr (pv 0) pass0))
      (pss_cons (ps_expr (pe_km0 (k_Font_check_lookups T) (by decide) hr (pv 0) pass0))
      (pss_one (ps_expr (pe_km0 (k_Font_check_rest T) (by decide) hr (pv 0) pass0)))))))))))))), ?_⟩
  walk_at "go"
  refine x_fst w0 (Txt.c_Font T) (Txt.a_Font_unit T) (Nat.le_of_ble_eq_true rfl) rfl fun H1 w1 _ j1 _ => ?_
  have hgl1 := w1.2.1.seq hgl
  walk_at "go"
  intro L nL
  refine lc_obj (GlyphAt K) (fun _ _ _ _ s h => GlyphAt.same s h) H2 w1.2.1 f.gs (walk_list hgl1) lg.symm (by omega) nL (fun i y H3 lt s3 e P cl => ?_) (fun H3 acc s3 hL hp => ?_)
  · obtain ⟨gd, mg, hg⟩ := pair_at' hgs e
    have gok := fok.gs gd (List.mem_of_getElem? mg)
    walk_at "go"
    refine ⟨rfl, ?_⟩
    walk_at "go"
    exact ⟨_, H2, gd, rfl, w1.2.1.trans s3, hg, by have := gok.cs; omega, fun v H' s' hg' => cl v H' gd s' mg hg'⟩
  have hG : Paired (GlyphAt K (era x H3)) acc f.gs := pair_mono (fun _ _ q => GlyphAt.same (fun b o e => by
    have e2 := era_sub b o e
    refine era_of (fun z => ?_) (ext_sub w1.2.1 s3 b o e2)
    rw [z] at e2
    cases q1 : H1 x with
    | none =>
      have := w1.2.2
      rw [q1] at this
      cases this
    | some u =>
      rw [ext_old q1, nx] at e2
      cases e2) q) hp
  have w3 := w1.keep s3
  walk_at "go"
  refine x_fst w3 (Txt.c_Font T) (Txt.a_Font_glyphs T) (Nat.le_of_ble_eq_true rfl) rfl fun H4 w4 _ j4 i4 => ?_
  have hG := glyphs_keep i4 hG
  have hL4 : H4 L = some (.lst acc) := i4 _ _ (fun z => by rw [z, w1.2.2] at nL; cases nL) hL
  obtain ⟨ac, xs, rfl, hc1, hc2⟩ := (dvc.same w4.2.1)
  cases dps_nil hc2
  walk_at "go"
  intro lc H5 s5 n5 e5
  have dC : Dp K H5 (.ref lc) (.list []) := .lst (SqL.of e5) .nil
  walk_at "go"
  refine x_fst (w4.keep s5) (Txt.c_Font T) (Txt.a_Font_chars T) (Nat.le_of_ble_eq_true rfl) rfl fun H6 w6 _ j6 i6 => ?_
  have dC := j6 _ _ dC
  have hG := glyphs_keep i6 (glyphs_keep (ne_x s5) hG)
  have Lx : L ≠ x := fun z => by rw [z, w1.2.2] at nL; cases nL
  have hL6 := i6 _ _ Lx (s5 _ _ hL4)
  obtain ⟨al, xs, rfl, hl1, hl2⟩ := (dvl.same w6.2.1)
  cases dps_nil hl2
  walk_at "go"
  intro J7 W7 ll n7
  refine lc_flatR (K := K) [] W7 rfl (by decide) rfl n7 (fun i x H4 lt => absurd lt (Nat.not_lt_zero i)) (fun H7 acc7 s7 e7 d7 => ?_)
  have dL : Dp K H7 (.ref ll) (.list []) := .lst (SqL.of e7) d7
  have dC := s7.dp dC
  walk_at "go"
  refine x_fst (w6.keep s7) (Txt.c_Font T) (Txt.a_Font_lookups T) (Nat.le_of_ble_eq_true rfl) rfl fun H8 w8 _ j8 i8 => ?_
  have dC := j8 _ _ dC
  have dL := j8 _ _ dL
  have hG := glyphs_keep i8 (glyphs_keep (ne_x s7) hG)
  have hL8 := i8 _ _ Lx (s7 _ _ hL6)
  obtain ⟨af, xs, rfl, hf1, hf2⟩ := (dvf.same w8.2.1)
  cases dps_nil hf2
  walk_at "go"
  intro J9 W9 lf n9
  refine lc_flatR (K := K) [] W9 rfl (by decide) rfl n9 (fun i x H4 lt => absurd lt (Nat.not_lt_zero i)) (fun H9 acc9 s9 e9 d9 => ?_)
  have dF : Dp K H9 (.ref lf) (.list []) := .lst (SqL.of e9) d9
  have dC := s9.dp dC
  have dL := s9.dp dL
  walk_at "go"
  refine x_fst (w8.keep s9) (Txt.c_Font T) (Txt.a_Font_features T) (Nat.le_of_ble_eq_true rfl) rfl fun HA wA _ jA iA => ?_
  have dC := jA _ _ dC
  have dL := jA _ _ dL
  have dF := jA _ _ dF
  have hG := glyphs_keep iA (glyphs_keep (ne_x s9) hG)
  have hLA := iA _ _ Lx (s9 _ _ hL8)
  obtain ⟨aa, xs, rfl, ha1, ha2⟩ := (dva.same wA.2.1)
  walk_at "go"
  intro la HB sB nB eB
  have dX : Dp K HB (.ref la) (.list (f.axes.map t3D)) := .lst (SqL.of eB) ((wA.2.1.trans sB).dps ha2)
  have dC := sB.dp dC
  have dL := sB.dp dL
  have dF := sB.dp dF
  walk_at "go"
  refine x_fst (wA.keep sB) (Txt.c_Font T) (Txt.a_Font_axes T) (Nat.le_of_ble_eq_true rfl) rfl fun HC wC _ jC iC => ?_
  have dC := jC _ _ dC
  have dL := jC _ _ dL
  have dF := jC _ _ dF
  have dX := jC _ _ dX
  have hG := glyphs_keep iC (glyphs_keep (ne_x sB) hG)
  have hLC := iC _ _ Lx (sB _ _ hLA)
  obtain ⟨ar, rxs, rfl, hr1, hr2⟩ := (dvr.same wC.2.1)
  have lr := dps_mlen hr2
  walk_at "go"
  intro JD WD lD nD
  refine lc_obj (fun H v d => Dp K H v d) (fun _ _ _ _ s h => s.dp h) HC (Same.refl _) (f.regs.map regD) WD (by rw [List.length_map, lr]) (by omega) nD (fun i y H3 lt s3 e P cl => ?_) (fun HD acc' sD hD hp => ?_)
  · obtain ⟨r, mr, dr⟩ := dps_map hr2 e
    obtain ⟨b, ys, rfl, hb, hy⟩ := dp_lst (wC.2.1.dp dr)
    have hb3 := s3.seq hb
    walk_at "go"
    refine ⟨rfl, ?_⟩
    walk_at "go"
    intro l H4 s4 n4 e4
    refine cl _ _ (regD r) s4 (by rw [List.getElem?_map, mr]; rfl) ?_
    exact .lst (SqL.of (by rw [ext_new n4]; exact e4)) ((sub_ext s3).dps hy)
  have dR : Dp K HD (.ref lD) (.list (f.regs.map regD)) := (ext_whole sD).dp (obj_dp nD hD hp)
  have dC := sD.dp dC
  have dL := sD.dp dL
  have dF := sD.dp dF
  have dX := sD.dp dX
  walk_at "go"
  refine x_fst (wC.keep sD) (Txt.c_Font T) (Txt.a_Font_regions T) (Nat.le_of_ble_eq_true rfl) rfl fun HE wE _ jE iE => ?_
  have dC := jE _ _ dC
  have dL := jE _ _ dL
  have dF := jE _ _ dF
  have dX := jE _ _ dX
  have dR := jE _ _ dR
  have hG := glyphs_keep iE (glyphs_keep (ne_x sD) hG)
  have hLE := iE _ _ Lx (sD _ _ hLC)
  obtain ⟨au, xs, rfl, hu1, hu2⟩ := (dvu.same wE.2.1)
  cases dps_nil hu2
  walk_at "go"
  intro JF WF lF nF
  refine lc_flatR (K := K) [] WF rfl (by decide) rfl nF (fun i x H4 lt => absurd lt (Nat.not_lt_zero i)) (fun HF accF sF eF dFn => ?_)
  have dU : Dp K HF (.ref lF) (.list []) := .lst (SqL.of eF) dFn
  have dC := sF.dp dC
  have dL := sF.dp dL
  have dF := sF.dp dF
  have dX := sF.dp dX
  have dR := sF.dp dR
  walk_at "go"
  refine x_fst (wE.keep sF) (Txt.c_Font T) (Txt.a_Font_functions T) (Nat.le_of_ble_eq_true rfl) rfl fun HG wG _ jG iG => ?_
  have dC := jG _ _ dC
  have dL := jG _ _ dL
  have dF := jG _ _ dF
  have dX := jG _ _ dX
  have dR := jG _ _ dR
  have dU := jG _ _ dU
  have hG := glyphs_keep iG (glyphs_keep (ne_x sF) hG)
  have hLG := iG _ _ Lx (sF _ _ hLE)
  obtain ⟨ap, xs, rfl, hp1, hp2⟩ := (dvp.same wG.2.1)
  cases dps_nil hp2
  walk_at "go"
  intro lp HI sI nI eI
  have dP : Dp K HI (.ref lp) (.list []) := .lst (SqL.of eI) .nil
  have dC := sI.dp dC
  have dL := sI.dp dL
  have dF := sI.dp dF
  have dX := sI.dp dX
  have dR := sI.dp dR
  have dU := sI.dp dU
  walk_at "go"
  refine x_fst (wG.keep sI) (Txt.c_Font T) (Txt.a_Font_presets T) (Nat.le_of_ble_eq_true rfl) rfl fun HJ wJ _ jJ iJ => ?_
  have hG := glyphs_keep iJ (glyphs_keep (ne_x sI) hG)
  have hLJ := iJ _ _ Lx (sI _ _ hLG)
  have FA : FontAt K HJ (.ref x) f := ⟨x, dx, L, acc, _, _, _, _, _, _, _, rfl, wJ.2.2, SqL.of hLJ, pair_mono (fun _ _ q => GlyphAt.same era_sub q) hG, jJ _ _ dC, jJ _ _ dL, jJ _ _ dF, jJ _ _ dX, jJ _ _ dR, jJ _ _ dU, jJ _ _ dP⟩
  have hx := wJ.2.2
  walk_at "go"
  refine ⟨_, f, rfl, FA, fok, fun HK sK => ?_⟩
  have hx := sK _ _ hx
  walk_at "go"
  refine ⟨_, f, rfl, FA.same sK, fok, fun HM sM => ?_⟩
  have hx := sM _ _ hx
  walk_at "go"
  refine ⟨_, f, rfl, FA.same (sK.trans sM), fok, fun HN sN => ?_⟩
  walk_at "go"
  exact q _ (((wJ.2.1.trans sK).trans sM).trans sN) (FA.same ((sK.trans sM).trans sN))
end
end Fl
set_option Elab.async false
set_option linter.all false
set_option maxRecDepth 100000
set_option maxHeartbeats 4000000
/-! Fonts called; varied, at_place, same_font. -/
namespace Fl
open PySem PySem.Spec PyProof.Rows L2
local macro_rules | `(tactic| walk_at "fx") => `(tactic| first | assumption | solve_by_elim [seqT, Same.trans, Same.seq])
local macro_rules | `(tactic| walk_at "cl") => `(tactic| first | assumption | exact Txt.c_Glyph (by assumption) | exact Txt.c_Font (by assumption) | exact Txt.c_Moves (by assumption))
local macro_rules | `(tactic| walk_at "na") => `(tactic| first | assumption | exact Txt.a_Glyph_advance (by assumption) | exact Txt.a_Glyph_outline (by assumption) | exact Txt.a_Glyph_parts (by assumption) | exact Txt.a_Glyph_anchors (by assumption) | exact Txt.a_Glyph_mark (by assumption) | exact Txt.a_Glyph_deltas (by assumption) | exact Txt.a_Glyph_hint (by assumption) | exact Txt.a_Font_unit (by assumption) | exact Txt.a_Font_glyphs (by assumption) | exact Txt.a_Font_chars (by assumption) | exact Txt.a_Font_lookups (by assumption) | exact Txt.a_Font_features (by assumption) | exact Txt.a_Font_axes (by assumption) | exact Txt.a_Font_regions (by assumption) | exact Txt.a_Font_functions (by assumption) | exact Txt.a_Font_presets (by assumption) | exact Txt.a_Moves_sums (by assumption))
local macro_rules | `(tactic| walk_at "step") => `(tactic| first
  | (with_reducible refine x_c ?_)
  | ((with_reducible show tVar _ _ _ _); refine ⟨_, rfl, ?_⟩)
  | (with_reducible refine x_op ?_) | (with_reducible refine x_seq ?_) | (with_reducible refine x_nx ?_) | (with_reducible refine x_asg ?_) | (with_reducible refine x_name ?_)
  | ((with_reducible show rI0 _ _ _ _ _); refine ⟨_, _, rfl, rfl, ?_⟩)
  | (with_reducible refine x_ret ?_) | (with_reducible refine x_rt ?_) | (with_reducible refine x_ifS ?_) | (with_reducible refine x_test ?_) | (with_reducible refine x_bl ?_)
  | (with_reducible refine x_cons ?_) | (with_reducible refine x_nil ?_) | (with_reducible refine x_call ?_) | (with_reducible refine x_CB ?_)
  | ((with_reducible refine' x_ixT ?h ?e ?q); (case h => walk_at "fx"); (case e => rfl))
  | ((with_reducible refine' x_ixL ?h ?e ?q); (case h => walk_at "fx"); (case e => rfl))
  | (with_reducible refine x_fld ?_)
  | ((with_reducible refine' x_at ?h ?c ?n ?l ?q); (case h => walk_at "fx"); (case c => walk_at "cl"); (case n => walk_at "na"); (case l => rfl))
  | (with_reducible refine x_un ?_) | ((with_reducible show rU _ _ _ _); refine ⟨_, rfl, ?_⟩)
  | (with_reducible refine x_not ?_) | (with_reducible refine x_and ?_) | (with_reducible refine x_or ?_) | (with_reducible refine x_tB ?_) | (with_reducible refine x_andV ?_) | (with_reducible refine x_notV ?_) | (with_reducible refine x_chain ?_) | (with_reducible refine x_chn ?_) | (with_reducible refine x_link ?_) | (with_reducible refine x_last ?_)
  | ((with_reducible refine x_eq ?s ?_); (case s => rfl)) | ((with_reducible refine x_ne ?s ?_); (case s => rfl))
  | (with_reducible refine x_tup ?_) | (with_reducible refine x_lst ?_) | (with_reducible refine x_disp (Nat.le_of_ble_eq_true rfl) ?_)
  | (with_reducible refine x_retN ?_) | (with_reducible refine x_drop ?_) | (with_reducible refine x_next ?_) | (with_reducible refine x_bk ?_) | (with_reducible refine x_ct ?_) | (with_reducible refine x_sfld ?_)
  | ((with_reducible refine' x_gtup ?h ?e ?q); (case h => walk_at "fx"); (case e => rfl)) | ((with_reducible refine' x_gunl ?h ?e ?q); (case h => walk_at "fx"); (case e => rfl))
  | (with_reducible refine x_gcons ?_) | (with_reducible refine x_gnil ?_) | (with_reducible refine x_gsub ?_)
  | (with_reducible refine x_for ?_) | ((with_reducible refine' x_lcSeq ?hv ?h ?q); (case hv => rfl); (case h => assumption)) | (with_reducible refine x_lc ?_) | (with_reducible refine x_yes ?_) | (with_reducible refine x_iList ?_) | (with_reducible refine x_iTup ?_) | (with_reducible refine x_iSeq ?_) | (with_reducible refine x_iZip ?_) | (with_reducible refine x_iEnum ?_) | (with_reducible refine x_iRng1 ?_)
  | ((with_reducible refine' x_itL ?h ?q); (case h => walk_at "fx")) | ((with_reducible refine' x_itT ?h ?q); (case h => walk_at "fx")) | ((with_reducible refine' x_itSL ?h ?q); (case h => walk_at "fx")) | ((with_reducible refine' x_itST ?h ?q); (case h => walk_at "fx"))
  | ((with_reducible refine' x_itZ ?h1 ?h2 ?q); (case h1 => walk_at "fx"); (case h2 => walk_at "fx")) | ((with_reducible refine' x_itE ?h ?q); (case h => walk_at "fx"))
  | ((with_reducible refine' x_lenL ?h ?q); (case h => walk_at "fx")) | ((with_reducible refine' x_lenT ?h ?q); (case h => walk_at "fx"))
  | ((with_reducible refine' x_lofB ?h ?q); (case h => assumption)) | ((with_reducible refine' x_lofL ?h ?q); (case h => walk_at "fx")) | ((with_reducible refine' x_lofT ?h ?q); (case h => walk_at "fx"))
  | ((with_reducible refine' x_augV ?hv ?h); (case hv => rfl)) | (with_reducible refine x_ipI ?_) | (with_reducible refine x_meth ?_) | ((with_reducible refine' x_mt ?h ?l ?q); (case h => walk_at "fx"); (case l => rfl)) | (with_reducible refine x_js ?_) | (with_reducible refine x_js0 ?_) | (with_reducible refine x_fmtI ?_) | (with_reducible refine x_make ?_) | (with_reducible refine x_bm ?_) | (with_reducible refine x_dget2 ?_) | ((with_reducible refine' x_isD ?h ?q); (case h => walk_at "fx")) | ((with_reducible refine' x_dg ?h ?q); (case h => walk_at "fx")) | (with_reducible refine x_din ?_) | ((with_reducible refine' x_dinA ?h ?q); (case h => walk_at "fx")) | (with_reducible refine x_dput ?_) | (with_reducible refine x_makeK ?_)
  | (with_reducible refine iteT ?_) | (with_reducible refine iteF ?_) | (with_reducible refine ifNT' ?_) | (with_reducible refine ifNF' ?_))
local macro_rules | `(tactic| walk_at "go") => `(tactic| repeat walk_at "step")
section
variable {P : Program} {w : World} {K : PySem.W.Frag} {mg : Str → Option Value} {base : Heap}
abbrev kwFont (K : PySem.W.Frag) (x : Str) : V := .ref (kwdAt ("Font", some "__init__") x K)
theorem k_make_Font_2_chars_lookups_features_functions_presets (T : Txt K mg) : KeptC P w K mg base CX0 5 "Font" (He.ga K "Font") 2 ["chars", "lookups", "features", "functions", "presets"] (fun vs zs => vs ++ zs.take 3 ++ [kwFont K "axes", kwFont K "regions"] ++ zs.drop 3) (spFontI K) := by
  obtain ⟨fd, F⟩ := T.f_Font_init
  obtain ⟨mv, h⟩ := F.kbinds0 (ps := ["self", "unit", "glyphs", "chars", "lookups", "features", "axes", "regions", "functions", "presets"]) 3 ["chars", "lookups", "features", "functions", "presets"] [("axes", kwFont K "axes"), ("regions", kwFont K "regions")] (fun vs ms zs => vs ++ zs.take 3 ++ ms ++ zs.drop 3) (by intro z; cases z)
    (fun q hq => by
      rcases List.mem_cons.mp hq with e | hq
      · rw [e]; exact .tail _ (.tail _ (.tail _ (.head _)))
      rw [List.mem_singleton.mp hq]
      exact .tail _ (.tail _ (.tail _ (.tail _ (.head _))))) (fun r1 r2 r3 => vals_app (vals_app (vals_app r1 (vals_take 3 r3)) r2) (vals_drop 3 r3))
    fun D doc pm an cdv ct us mv ws l1 l2 l3 => match us, mv, ws, l1, l2, l3 with
      | [_, _, _], [_, _], [_, _, _, _, _], _, _, _ => ⟨_, _, _, _, _, _, rfl, rfl, _, _, _, _, _, _, rfl, rfl, rfl⟩
  exact ⟨_, fd, _, _, T.g_Font, Txt.m_Font T, h, ok_Font_init T F⟩
theorem k_make_Font_2_axes_regions (T : Txt K mg) : KeptC P w K mg base CX0 5 "Font" (He.ga K "Font") 2 ["axes", "regions"] (fun vs zs => vs ++ [kwFont K "chars", kwFont K "lookups", kwFont K "features"] ++ zs ++ [kwFont K "functions", kwFont K "presets"]) (spFontI K) := by
  obtain ⟨fd, F⟩ := T.f_Font_init
  obtain ⟨mv, h⟩ := F.kbinds0 (ps := ["self", "unit", "glyphs", "chars", "lookups", "features", "axes", "regions", "functions", "presets"]) 3 ["axes", "regions"] [("chars", kwFont K "chars"), ("lookups", kwFont K "lookups"), ("features", kwFont K "features"), ("functions", kwFont K "functions"), ("presets", kwFont K "presets")]
    (fun vs ms zs => vs ++ ms.take 3 ++ zs ++ ms.drop 3) (by intro z; cases z)
    (fun q hq => by
      rcases List.mem_cons.mp hq with e | hq
      · rw [e]; exact .head _
      rcases List.mem_cons.mp hq with e | hq
      · rw [e]; exact .tail _ (.head _)
      rcases List.mem_cons.mp hq with e | hq
      · rw [e]; exact .tail _ (.tail _ (.head _))
      rcases List.mem_cons.mp hq with e | hq
      · rw [e]; exact .tail _ (.tail _ (.tail _ (.tail _ (.tail _ (.head _)))))
      rw [List.mem_singleton.mp hq]
      exact .tail _ (.tail _ (.tail _ (.tail _ (.tail _ (.tail _ (.head _))))))) (fun r1 r2 r3 => vals_app (vals_app (vals_app r1 (vals_take 3 r2)) r3) (vals_drop 3 r2))
    fun D doc pm an cdv ct us mv ws l1 l2 l3 => match us, mv, ws, l1, l2, l3 with
      | [_, _, _], [_, _, _, _, _], [_, _], _, _, _ => ⟨_, _, _, _, _, _, rfl, rfl, _, _, _, _, _, _, rfl, rfl, _, _, _, _, _, _, rfl, rfl, _, _, _, _, _, _, rfl, rfl, _, _, _, _, _, _, rfl, rfl, rfl⟩
  exact ⟨_, fd, _, _, T.g_Font, Txt.m_Font T, h, ok_Font_init T F⟩
/-! ### varied -/
def spVaried (K : PySem.W.Frag) : Sp := fun vs H Q E => ∃ (vf : V) (i : Nat) (vp : V) (f : Fd) (gd : Gd) (ps : List Rt), vs = [vf, .int i, vp] ∧ FontAt K H vf f ∧ f.gs[i]? = some gd ∧ FOk f ∧ Dp K H vp (.list (ps.map pD)) ∧ ps.length = f.axes.length ∧ (∀ p ∈ ps, Sz 16 p) ∧
  (∀ g', variedM f ps gd = some g' → ∀ v H', Same H H' → GlyphAt K (nw H H') v g' → Q v H') ∧ (variedM f ps gd = none → ∀ d H', Same H H' → E (.ref (He.ga K "OutOfRange")) (some d) H')
abbrev sc_variedN : List Str := ["font", "number", "parts", "glyph", "moves", "outline", "advance"]
theorem sc_varied : FnScope sc_variedN ["font", "number", "parts"] (defScope s_varied) := ⟨rfl, rfl, rfl, by decide +kernel, rfl, by decide +kernel, by decide +kernel⟩
theorem k_varied (T : Txt K mg) : Kept P w K mg base (L2.CX P w) 7 "varied" ["font", "number", "parts"] [] (spVaried K) := by
  obtain ⟨fd, F⟩ := T.f_varied
  refine ⟨_, fd, [], T.g_varied, F.kp, F.bindsN (ps := ["font", "number", "parts"]) (fun _ _ _ _ _ _ us hl => match us, hl with | [_, _, _], _ => rfl), .nil, ?_⟩
  refine F.ok sc_varied (fun vs H Q E h => ?_) (fun cdv A outer s H vs Q E hr h => ?_)
  · obtain ⟨vf, i, vp, f, gd, ps, rfl, _⟩ := h
    rfl
  refine ⟨_, (pss_cons (ps_set (i := 3) sc_varied.nd rfl (.inl rfl) (pe_ix ix_list (pe_fld (pv 0) rfl) (pv 1) (fun _ _ => rfl)))
      (pss_cons (ps_set (i := 4) sc_varied.nd rfl (.inl rfl) (pe_ki (k_Moves_init T) (by decide) hr (by rfl) pass0 (pa_cons (pv 0) (pa_cons (pv 3) (pa_cons (pv 2) pa_nil)))))
      (pss_cons (ps_set (i := 5) sc_varied.nd rfl (.inl rfl) (pe_kc (k_moved_outline T) (by decide) hr (by rfl) (passes_call (takes_of rfl rfl rfl rfl) (fun _ _ _ _ h => h)) (pa_cons (pe_fld (pv 3) rfl) (pa_cons (pv 4) (pa_cons (pv 1) pa_nil)))))
      (pss_cons (ps_set (i := 6) sc_varied.nd rfl (.inl rfl) (pe_op op_add (pe_fld (pv 3) rfl) (pe_ix ix_tup (pe_km (k_Moves_by T) (by decide) hr (pv 4) pass0 (pa_cons (pe_un un_neg pe_int) pa_nil)) pe_int (fun _ _ => rfl))))
      (pss_cons (ps_if (PW.pt (pw_and (pt_val (pe_km (k_Moves_has T) (by decide) hr (pv 4) pass0 (pa_cons (pe_un un_neg pe_int) pa_nil))) (pw_and1 (pt_not (pt_chn pe_int (ptc_link op_le (pv 6) (ptc_last op_le (pe_gi (Txt.i_FARTHEST T) (by rfl))))))))) (pss_one (ps_raise rfl (takes_of rfl rfl rfl rfl) (pmk_ko (k_OutOfRange_init T) (by decide) hr (by rfl) pass0 (pa_cons (pv 1) pa_nil)))) pss_nil)
      (pss_one (ps_ret (pe_kk (k_make_Glyph_2_parts_anchors_mark_hint T) (by decide) hr (by rfl) pass0 (pa_cons (pv 6) (pa_cons (pv 5) pa_nil)) (pk_cons (pe_fld (pv 3) rfl) (pk_cons (pe_fld (pv 3) rfl) (pk_cons (pe_fld (pv 3) rfl) (pk_cons (pe_fld (pv 3) rfl) pk_nil)))))))))))), ?_⟩
  obtain ⟨vf, i, vp, f, gd, ps, rfl, hf, mgd, fok, dps, lps, szp, g, gx⟩ := h
  have gok := fok.gs gd (List.mem_of_getElem? mgd)
  obtain ⟨a, dx, gl, gvs, vc, vl, vfe, va, vr, vu, vpr, rfl, h0, h1, h2, _⟩ := id hf
  obtain ⟨gv, mgv, hg⟩ := pair_at h2 mgd
  walk_at "go"
  refine x_ixL h1 (atI_nat mgv) ?_
  walk_at "go"
  intro x dx' nx nd ne
  refine ⟨x, dx', H, _, _, _, f, gd, ps, rfl, rfl, nx, nd, ne, hf, hg, dps, fok, gok, lps, szp, fun H1 s1 hm => ⟨rfl, ?_⟩⟩
  have szm := sz_moves fok gok szp
  obtain ⟨ag, gx', vo, vpp, vaa, vd, vh, rfl, g0, g1, g2, g3, g5, g6⟩ := id hg
  have g0' := s1 _ _ g0
  walk_at "go"
  refine ⟨_, _, _, gd.out, movesM f gd ps, rfl, s1.dp g1, hm, szm, gok.out, fun o' eo v2 H2 s2 d2 => ?_, fun en d H' s' => ?_⟩
  · obtain ⟨am, xm, dm, kvs, em, hm0, hmr⟩ := id (hm.same s2)
    cases em
    have sA := s1.trans s2
    have g0 := sA _ _ g0
    have e3 : ∀ b : Prop, variedM f ps gd = if (movesM f gd ps (-1)).isSome = true ∧ ¬ (0 ≤ gd.adv + (byM (movesM f gd ps) (-1)).1 ∧ gd.adv + (byM (movesM f gd ps) (-1)).1 ≤ 16384) then none else some ⟨gd.adv + (byM (movesM f gd ps) (-1)).1, o', []⟩ := fun _ => by
      unfold variedM
      rw [eo]
    have e3 := e3 True
    walk_at "go"
    refine ⟨_, -1, _, rfl, hm.same s2, szm, fun v3 H3 s3 d3 => ?_⟩
    obtain ⟨t3, rfl, h3⟩ := dp_pair d3
    have hm0 := s3 _ _ hm0
    have g0 := s3 _ _ g0
    have sB := sA.trans s3
    walk_at "go"
    refine ⟨_, -1, _, rfl, (hm.same s2).same s3, ?_⟩
    walk_at "go"
    have fin : ¬ ((movesM f gd ps (-1)).isSome = true ∧ ¬ (0 ≤ gd.adv + (byM (movesM f gd ps) (-1)).1 ∧ gd.adv + (byM (movesM f gd ps) (-1)).1 ≤ 16384)) → variedM f ps gd = some ⟨gd.adv + (byM (movesM f gd ps) (-1)).1, o', []⟩ := fun h => by rw [e3, if_neg h]
    have bad : ((movesM f gd ps (-1)).isSome = true ∧ ¬ (0 ≤ gd.adv + (byM (movesM f gd ps) (-1)).1 ∧ gd.adv + (byM (movesM f gd ps) (-1)).1 ≤ 16384)) → variedM f ps gd = none := fun h => by rw [e3, if_pos h]
    refine ifB (fun c0 => ?ca) (fun c0 => ?cb)
    case' ca =>
      walk_at "go"
      refine ifD (fun c1 => ?cc) (fun c1 => ?cd)
      case' cd =>
        walk_at "go"
        exact x_oor rfl fun d H' s' => gx (bad ⟨c0, fun z => c1 z.1⟩) d H' (sB.trans s')
      case' cc =>
        walk_at "go"
        refine ifB (fun c2 => ?ce) (fun c2 => ?cf)
        case' ce =>
          have c3 : ¬ gd.adv + (byM (movesM f gd ps) (-1)).1 ≤ 16384 := fun z => by
            rw [decide_eq_true z] at c2
            cases c2
          exact x_oor rfl fun d H' s' => gx (bad ⟨c0, fun z => c3 z.2⟩) d H' (sB.trans s')
        case' cf =>
          have c3 : gd.adv + (byM (movesM f gd ps) (-1)).1 ≤ 16384 := Classical.byContradiction fun z => by
            rw [decide_eq_false z] at c2
            cases c2
          have ev := fin fun z => z.2 ⟨c1, c3⟩
    case' cb =>
      have ev := fin fun z => by rw [c0] at z; cases z.1
    all_goals
      have lo' : o'.length ≤ 1000 := by
        rw [(mvO_ok eo gok.pt gok.c2).1]
        have := gok.cs
        omega
      walk_at "go"
      refine ⟨rfl, rfl, fun y dy ny ndy ney => ?_⟩
      have kE := (Txt.more T).2.2.2.2.2.2.2 (("Glyph", some "__init__"), "deltas") (.tail _ (.tail _ (.head _)))
      exact ⟨y, dy, H3, nw H H3, v2, vpp, vaa, _, vh, ⟨gd.adv + (byM (movesM f gd ps) (-1)).1, o', []⟩, rfl, rfl, ny, ndy, ney, nw_sub, ((nw_back (same_dom s1)).trans (nw_mono s3)).dp d2, lo', SeqD.nil (sB.dp g2), SeqD.nil (sB.dp g3), SeqD.tup (kE H3), SeqD.nil (sB.dp g6), fun H' s' hg' => ⟨rfl, g _ ev _ _ (sB.trans s') (GlyphAt.same (nw_ext_nw sB s') hg')⟩⟩
  · have : variedM f ps gd = none := by
      unfold variedM
      rw [en]
    exact gx this d H' (s1.trans s')
/-! ### at_place -/
def spAtPlace (K : PySem.W.Frag) : Sp := fun vs H Q E => ∃ (vf vp : V) (f : Fd) (pl : List Int), vs = [vf, vp] ∧ FontAt K H vf f ∧ Dp K H vp (.list (pl.map .int)) ∧ FOk f ∧ InAx f.axes pl ∧
  (∀ gs, instM f (sharesM f.axes pl) = some gs → ∀ v H', Same H H' → FontAt K H' v ⟨gs, [], []⟩ → Q v H') ∧ (instM f (sharesM f.axes pl) = none → ∀ d H', Same H H' → E (.ref (He.ga K "OutOfRange")) (some d) H')
theorem pair_somes {α β : Type} {F : α → β → Prop} : ∀ {l : List α} {m : List (Option β)}, Paired (fun a o => ∃ b, o = some b ∧ F a b) l m → ∃ r, m = r.map some ∧ Paired F l r
  | _, _, .nil => ⟨[], rfl, .nil⟩
  | _, _, .cons ⟨b, e, h⟩ t => by
    obtain ⟨r, e2, h2⟩ := pair_somes t
    exact ⟨b :: r, by rw [e, e2]; rfl, .cons h h2⟩
abbrev sc_at_placeN : List Str := ["font", "place", "parts", "glyphs", "number"]
theorem sc_at_place : FnScope sc_at_placeN ["font", "place"] (defScope s_at_place) := ⟨rfl, rfl, rfl, by decide +kernel, rfl, by decide +kernel, by decide +kernel⟩
theorem k_at_place (T : Txt K mg) : Kept P w K mg base (L2.CX P w) 8 "at_place" ["font", "place"] [] (spAtPlace K) := by
  obtain ⟨fd, F⟩ := T.f_at_place
  refine ⟨_, fd, [], T.g_at_place, F.kp, F.bindsN (ps := ["font", "place"]) (fun _ _ _ _ _ _ us hl => match us, hl with | [_, _], _ => rfl), .nil, ?_⟩
  refine F.ok sc_at_place (fun vs H Q E h => ?_) (fun cdv A outer s H vs Q E hr h => ?_)
  · obtain ⟨vf, vp, f, pl, rfl, _⟩ := h
    rfl
  refine ⟨_, (pss_cons (ps_set (i := 2) sc_at_place.nd rfl (.inr rfl) (pe_kc (k_shares T) (by decide) hr (by rfl) pass0 (pa_cons (pv 0) (pa_cons (pv 1) pa_nil))))
      (pss_cons (ps_setLcX (i := 3) (own := [("number", 4)]) (takes_of rfl rfl rfl rfl) rfl rfl rfl sc_at_place.nd rfl rfl (sw_true rfl rfl rfl (by decide +kernel)) (pi_range1 (by rfl) (Txt.n_range T) (pa_cons (pe_callB (lenK K rfl) (by rfl) (Txt.n_len T) PySem.boot_len (pa_cons (pe_fld (pv 0) rfl) pa_nil)) pa_nil)) (blkOk_by (N := sc_at_placeN) (sc := (defScope s_at_place)) (by decide +kernel)) (fun _ _ _ _ _ => (pg_name (i := 4) sc_at_place.nd rfl (.inl rfl))) (fun _ _ _ _ _ hpx => (pe_kc (k_varied T) (by decide) hr (by rfl) hpx (pa_cons (pv 0) (pa_cons (pv 4) (pa_cons (pv 2) pa_nil))))))
      (pss_one (ps_ret (pe_kk (k_make_Font_2_chars_lookups_features_functions_presets T) (by decide) hr (by rfl) pass0 (pa_cons (pe_fld (pv 0) rfl) (pa_cons (pv 3) pa_nil)) (pk_cons (pe_fld (pv 0) rfl) (pk_cons (pe_fld (pv 0) rfl) (pk_cons (pe_fld (pv 0) rfl) (pk_cons (pe_fld (pv 0) rfl) (pk_cons (pe_fld (pv 0) rfl) pk_nil)))))))))), ?_⟩
  obtain ⟨vf, vp, f, pl, rfl, hf, dp, fok, hi, g, gx⟩ := h
  obtain ⟨a, dx, gl, gvs, vc, vl, vfe, va, vr, vu, vpr, rfl, h0, h1, h2, h3, h4, h5, h6, h7, h8, h9⟩ := id hf
  have lg := pair_len h2
  have g2 := fok.g2
  walk_at "go"
  refine ⟨_, _, f, pl, rfl, hf, dp, fok.ax, fok.a3, hi, fun v1 H1 s1 d1 => ?_⟩
  have h0 := s1 _ _ h0
  have h1 := s1.seq h1
  have szp := sz_shares fok.ax hi
  have lps : (sharesM f.axes pl).length = f.axes.length := sharesM_length hi.len
  walk_at "go"
  refine ⟨_, rfl, by omega, by omega, ?_⟩
  intro L nL
  refine lc_obj (fun H v (o : Option Gd) => ∃ g, o = some g ∧ GlyphAt K H v g) (fun _ _ _ _ s ⟨g, e, h⟩ => ⟨g, e, GlyphAt.same s h⟩) H1 (Same.refl _) (f.gs.map (variedM f (sharesM f.axes pl))) (walk_rng (n := gvs.length)) (by rw [List.length_map, lg]) (by omega) nL (fun i y H3 lt s3 e P cl => ?_) (fun H3 acc s3 hL hp => ?_)
  · subst e
    obtain ⟨gd, mgd⟩ := getI (l := f.gs) (i := i) (by omega)
    walk_at "go"
    refine ⟨rfl, ?_⟩
    walk_at "go"
    refine ⟨_, i, _, f, gd, _, rfl, hf.same (s1.trans s3), mgd, fok, s3.dp d1, lps, szp, fun g' eg v H' s' hg' => ?_, fun en d H' s' => ?_⟩
    · exact cl v H' (some g') s' (by rw [List.getElem?_map, mgd, ← eg]; rfl) ⟨g', rfl, GlyphAt.same nw_ext hg'⟩
    · refine gx ?_ d H' ((s1.trans s3).trans s')
      exact allS_none (i := i) (by rw [List.getElem?_map, mgd, ← en]; rfl)
  · obtain ⟨gs, em, hps⟩ := pair_somes hp
    have ei : instM f (sharesM f.axes pl) = some gs := by
      unfold instM
      rw [em]
      exact allS_of gs
    have h0 := s3 _ _ h0
    have sA := s1.trans s3
    have kE := fun q hq => (Txt.more T).2.2.2.2.2.2.2 q hq H3
    walk_at "go"
    refine ⟨rfl, rfl, fun x dx' nx nd ne => ?_⟩
    exact ⟨x, dx', L, H3, acc, _, _, _, _, _, _, _, ⟨gs, [], []⟩, rfl, rfl, nx, nd, ne, SqL.of hL, pair_mono (fun _ _ q => GlyphAt.same (era_sub.trans (ext_whole s3)) q) hps, SeqD.nil (sA.dp h3), SeqD.nil (sA.dp h4), SeqD.nil (sA.dp h5),
      SeqD.tup (kE (("Font", some "__init__"), "axes") (.tail _ (.tail _ (.tail _ (.tail _ (.tail _ (.tail _ (.tail _ (.head _))))))))), SeqD.tup (kE (("Font", some "__init__"), "regions") (.tail _ (.tail _ (.tail _ (.tail _ (.tail _ (.tail _ (.tail _ (.tail _ (.head _)))))))))),
      SeqD.nil (sA.dp h8), SeqD.nil (sA.dp h9), (inst_ok fok ei).1, fun H' s' hF => ⟨rfl, g gs ei _ _ (sA.trans s') hF⟩⟩
/-! ### glyph_parts, font_parts, same_font -/
def glyD (g : Gd) : PyData := .tuple [.int g.adv, outD g.out, .list [], .list [], .bool false, .list (g.dl.map t4D), .list []]
def fontD (f : Fd) : PyData := .tuple [.int 100, .list (f.gs.map glyD), .list [], .list [], .list [], .list (f.axes.map t3D), .list (f.regs.map regD), .list [], .list []]
def spGParts (K : PySem.W.Frag) : Sp := fun vs H Q _ => ∃ (v : V) (G : Hp) (g : Gd), vs = [v] ∧ Same G H ∧ GlyphAt K G v g ∧ ∀ v H', Same H H' → Dp K (ext G H H') v (glyD g) → Q v H'
abbrev sc_glyph_partsN : List Str := ["glyph"]
theorem sc_glyph_parts : FnScope sc_glyph_partsN ["glyph"] (defScope s_glyph_parts) := ⟨rfl, rfl, rfl, by decide +kernel, rfl, by decide +kernel, by decide +kernel⟩
theorem k_glyph_parts (T : Txt K mg) : Kept P w K mg base CX0 1 "glyph_parts" ["glyph"] [] (spGParts K) := by
  obtain ⟨fd, F⟩ := T.f_glyph_parts
  refine ⟨_, fd, [], T.g_glyph_parts, F.kp, F.bindsN (ps := ["glyph"]) (fun _ _ _ _ _ _ us hl => match us, hl with | [_], _ => rfl), .nil, ?_⟩
  refine ok0 F sc_glyph_parts (fun vs H Q E h => ?_) (fun cdv A outer s H vs Q E hr h => ?_)
  · obtain ⟨v, G, gg, rfl, _⟩ := h
    rfl
  refine ⟨_, (pss_one (ps_ret (pe_tup (pa_cons (pe_fld (pv 0) rfl) (pa_cons (pe_fld (pv 0) rfl) (pa_cons (pe_fld (pv 0) rfl) (pa_cons (pe_fld (pv 0) rfl) (pa_cons (pe_fld (pv 0) rfl) (pa_cons (pe_fld (pv 0) rfl) (pa_cons (pe_fld (pv 0) rfl) pa_nil)))))))))), ?_⟩
  obtain ⟨v, G, g, rfl, sG, hg, q⟩ := h
  obtain ⟨a, dx, vo, vp, va, vd, vh, rfl, h0, h1, h2, h3, h4, h5⟩ := hg
  have h0 := sG _ _ h0
  walk_at "go"
  intro t H1 s1 n1 e1
  have sE := sub_ext (G := G) (H' := H1) sG
  exact q _ _ s1 (.tup (SqT.of (by rw [ext_new n1]; exact e1)) (.cons (.int _) (.cons (sE.dp h1) (.cons (sE.dp h2) (.cons (sE.dp h3) (.cons (.bl _) (.cons (sE.dp h4) (.cons (sE.dp h5) .nil))))))))
def spFParts (K : PySem.W.Frag) : Sp := fun vs H Q _ => ∃ (v : V) (f : Fd), vs = [v] ∧ FontAt K H v f ∧ f.gs.length ≤ 3 ∧ Gives K H Q (fontD f)
abbrev sc_font_partsN : List Str := ["font", "glyph", "lookup"]
theorem sc_font_parts : FnScope sc_font_partsN ["font"] (defScope s_font_parts) := ⟨rfl, rfl, rfl, by decide +kernel, rfl, by decide +kernel, by decide +kernel⟩
theorem k_font_parts (T : Txt K mg) : Kept P w K mg base CX0 2 "font_parts" ["font"] [] (spFParts K) := by
  obtain ⟨fd, F⟩ := T.f_font_parts
  refine ⟨_, fd, [], T.g_font_parts, F.kp, F.bindsN (ps := ["font"]) (fun _ _ _ _ _ _ us hl => match us, hl with | [_], _ => rfl), .nil, ?_⟩
  refine ok0 F sc_font_parts (fun vs H Q E h => ?_) (fun cdv A outer s H vs Q E hr h => ?_)
  · obtain ⟨v, f, rfl, _⟩ := h
    rfl
  refine ⟨_, (pss_one (ps_ret (pe_tup (pa_cons (pe_fld (pv 0) rfl) (pa_cons (pe_lc (own := [("glyph", 1)]) (tt := tYes) rfl sc_font_parts.nd (pi_list (pe_fld (pv 0) rfl)) (blkOk_by (N := sc_font_partsN) (sc := (defScope s_font_parts)) (by decide +kernel)) (fun _ _ _ _ _ => (pg_name (i := 1) sc_font_parts.nd rfl (.inl rfl))) (fun _ _ _ _ _ => pts_nil) (fun _ _ _ _ _ => (pe_kc (k_glyph_parts T) (by decide) hr (by rfl) pass0 (pa_cons (pv 1) pa_nil)))) (pa_cons (pe_fld (pv 0) rfl) (pa_cons (pe_lc (own := [("lookup", 2)]) (tt := tYes) rfl sc_font_parts.nd (pi_list (pe_fld (pv 0) rfl)) (blkOk_by (N := sc_font_partsN) (sc := (defScope s_font_parts)) (by decide +kernel)) (fun _ _ _ _ _ => (pg_name (i := 2) sc_font_parts.nd rfl (.inl rfl))) (fun _ _ _ _ _ => pts_nil) (fun _ _ _ _ _ => pe_no)) (pa_cons (pe_fld (pv 0) rfl) (pa_cons (pe_fld (pv 0) rfl) (pa_cons (pe_fld (pv 0) rfl) (pa_cons (pe_fld (pv 0) rfl) (pa_cons (pe_fld (pv 0) rfl) pa_nil)))))))))))), ?_⟩
  obtain ⟨v, f, rfl, hf, l3, q⟩ := h
  obtain ⟨a, dx, gl, gvs, vc, vl, vfe, va, vr, vu, vpr, rfl, h0, h1, h2, h3, h4, h5, h6, h7, h8, h9⟩ := id hf
  have lg := pair_len h2
  walk_at "go"
  intro L nL
  refine lc_obj (fun H v d => Dp K H v d) (fun _ _ _ _ s h => s.dp h) H (Same.refl _) (f.gs.map glyD) (walk_list h1) (by rw [List.length_map, lg]) (by omega) nL (fun i y H3 lt s3 e P cl => ?_) (fun H3 acc s3 hL hp => ?_)
  · obtain ⟨gd, mg, hg⟩ := pair_at' h2 e
    walk_at "go"
    refine ⟨rfl, ?_⟩
    walk_at "go"
    exact ⟨_, H, gd, rfl, s3, hg, fun v H' s' d => cl v H' _ s' (by rw [List.getElem?_map, mg]; rfl) d⟩
  have dG : Dp K H3 (.ref L) (.list (f.gs.map glyD)) := (ext_whole s3).dp (obj_dp nL hL hp)
  have h0 := s3 _ _ h0
  obtain ⟨al, rfl, hl⟩ := dp_nilL (s3.dp h4)
  walk_at "go"
  intro L2 n2
  refine lc_flatR (K := K) [] (walk_list hl) rfl (by decide) rfl n2 (fun i x H4 lt => absurd lt (Nat.not_lt_zero i)) (fun H4 acc4 s4 e4 d4 => ?_)
  have dL : Dp K H4 (.ref L2) (.list []) := .lst (SqL.of e4) d4
  have h0 := s4 _ _ h0
  have sA := s3.trans s4
  walk_at "go"
  intro t H5 s5 n5 e5
  have sB := sA.trans s5
  exact q _ _ sB (.tup (SqT.of e5) (.cons (.int _) (.cons ((s4.trans s5).dp dG) (.cons (sB.dp h3) (.cons (s5.dp dL) (.cons (sB.dp h5) (.cons (sB.dp h6) (.cons (sB.dp h7) (.cons (sB.dp h8) (.cons (sB.dp h9) .nil))))))))))
theorem all_map {α : Type} {f : α → PyData} {n : Nat} (h : ∀ x, lay n (f x) = true) (l : List α) : (l.map f).all (lay n) = true := by
  rw [List.all_map, List.all_eq_true]
  exact fun x _ => h x
theorem lay_pt (n : Nat) (p : Pt) : lay (n + 1) (ptD p) = true := by cases n <;> simp [ptD, lay]
theorem lay_con (n : Nat) (c : List Pt) : lay (n + 2) (conD c) = true := by
  simp only [conD, lay]
  exact all_map (lay_pt n) c
theorem lay_out (n : Nat) (o : Outl) : lay (n + 3) (outD o) = true := by
  simp only [outD, lay]
  exact all_map (lay_con n) o
theorem lay_t3 (n : Nat) (t : Ax) : lay (n + 1) (t3D t) = true := by cases n <;> simp [t3D, lay]
theorem lay_t4 (n : Nat) (t : Dl) : lay (n + 1) (t4D t) = true := by cases n <;> simp [t4D, lay]
theorem lay_reg (n : Nat) (r : List Ax) : lay (n + 2) (regD r) = true := by
  simp only [regD, lay]
  exact all_map (lay_t3 n) r
theorem lay_gly (g : Gd) : lay 4 (glyD g) = true := by
  have h1 := lay_out 0 g.out
  have h2 := all_map (n := 2) (lay_t4 1) g.dl
  simp [glyD, lay, h1, h2]
theorem lay_font (f : Fd) : lay 6 (fontD f) = true := by
  have h1 := all_map lay_gly f.gs
  have h2 := all_map (n := 4) (lay_t3 3) f.axes
  have h3 := all_map (n := 4) (lay_reg 2) f.regs
  simp only [fontD, lay, List.all_cons, List.all_nil, h1, h2, h3, Bool.and_self]
def spSameF (K : PySem.W.Frag) : Sp := fun vs H Q _ => ∃ (v u : V) (f : Fd), vs = [v, u] ∧ FontAt K H v f ∧ FontAt K H u f ∧ f.gs.length ≤ 3 ∧ Tells H Q (.bl true)
abbrev sc_same_fontN : List Str := ["font", "other"]
theorem sc_same_font : FnScope sc_same_fontN ["font", "other"] (defScope s_same_font) := ⟨rfl, rfl, rfl, by decide +kernel, rfl, by decide +kernel, by decide +kernel⟩
theorem k_same_font (T : Txt K mg) : Kept P w K mg base CX0 3 "same_font" ["font", "other"] [] (spSameF K) := by
  obtain ⟨fd, F⟩ := T.f_same_font
  refine ⟨_, fd, [], T.g_same_font, F.kp, F.bindsN (ps := ["font", "other"]) (fun _ _ _ _ _ _ us hl => match us, hl with | [_, _], _ => rfl), .nil, ?_⟩
  refine ok0 F sc_same_font (fun vs H Q E h => ?_) (fun cdv A outer s H vs Q E hr h => ?_)
  · obtain ⟨v, u, f, rfl, _⟩ := h
    rfl
  refine ⟨_, (pss_one (ps_ret (pe_cmpR (op_eqD hr.units) (pe_kc (k_font_parts T) (by decide) hr (by rfl) pass0 (pa_cons (pv 0) pa_nil)) (pe_kc (k_font_parts T) (by decide) hr (by rfl) pass0 (pa_cons (pv 1) pa_nil)) (nomark _)))), ?_⟩
  obtain ⟨v, u, f, rfl, hv, hu, l3, q⟩ := h
  walk_at "go"
  refine ⟨_, f, rfl, hv, l3, fun v1 H1 s1 d1 => ?_⟩
  walk_at "go"
  refine ⟨_, f, rfl, hu.same s1, l3, fun v2 H2 s2 d2 => ?_⟩
  have L := lay_font f
  refine ⟨_, _, s2.dp d1, d2, lay_sh (by decide) L, lay_sh (by decide) L, ?_⟩
  rw [lay_refl L]
  exact q _ (s1.trans s2)
end
end Fl
set_option Elab.async false
set_option linter.all false
set_option maxRecDepth 100000
set_option maxHeartbeats 4000000
/-! The deck and the draws. -/
namespace Fl
open PySem PySem.Spec PyProof.Rows L2
local macro_rules | `(tactic| walk_at "fx") => `(tactic| first | assumption | solve_by_elim [seqT, Same.trans, Same.seq])
local macro_rules | `(tactic| walk_at "cl") => `(tactic| first | assumption | exact Txt.c_Glyph (by assumption) | exact Txt.c_Font (by assumption) | exact Txt.c_Moves (by assumption))
local macro_rules | `(tactic| walk_at "na") => `(tactic| first | assumption | exact Txt.a_Glyph_advance (by assumption) | exact Txt.a_Glyph_outline (by assumption) | exact Txt.a_Glyph_parts (by assumption) | exact Txt.a_Glyph_anchors (by assumption) | exact Txt.a_Glyph_mark (by assumption) | exact Txt.a_Glyph_deltas (by assumption) | exact Txt.a_Glyph_hint (by assumption) | exact Txt.a_Font_unit (by assumption) | exact Txt.a_Font_glyphs (by assumption) | exact Txt.a_Font_chars (by assumption) | exact Txt.a_Font_lookups (by assumption) | exact Txt.a_Font_features (by assumption) | exact Txt.a_Font_axes (by assumption) | exact Txt.a_Font_regions (by assumption) | exact Txt.a_Font_functions (by assumption) | exact Txt.a_Font_presets (by assumption) | exact Txt.a_Moves_sums (by assumption))
local macro_rules | `(tactic| walk_at "step") => `(tactic| first
  | (with_reducible refine x_c ?_)
  | ((with_reducible show tVar _ _ _ _); refine ⟨_, rfl, ?_⟩)
  | (with_reducible refine x_op ?_) | (with_reducible refine x_seq ?_) | (with_reducible refine x_nx ?_) | (with_reducible refine x_asg ?_) | (with_reducible refine x_name ?_)
  | ((with_reducible show rI0 _ _ _ _ _); refine ⟨_, _, rfl, rfl, ?_⟩)
  | (with_reducible refine x_ret ?_) | (with_reducible refine x_rt ?_) | (with_reducible refine x_ifS ?_) | (with_reducible refine x_test ?_) | (with_reducible refine x_bl ?_)
  | (with_reducible refine x_cons ?_) | (with_reducible refine x_nil ?_) | (with_reducible refine x_call ?_) | (with_reducible refine x_CB ?_)
  | ((with_reducible refine' x_ixT ?h ?e ?q); (case h => walk_at "fx"); (case e => rfl))
  | ((with_reducible refine' x_ixL ?h ?e ?q); (case h => walk_at "fx"); (case e => rfl))
  | (with_reducible refine x_fld ?_)
  | ((with_reducible refine' x_at ?h ?c ?n ?l ?q); (case h => walk_at "fx"); (case c => walk_at "cl"); (case n => walk_at "na"); (case l => rfl))
  | (with_reducible refine x_un ?_) | ((with_reducible show rU _ _ _ _); refine ⟨_, rfl, ?_⟩)
  | (with_reducible refine x_not ?_) | (with_reducible refine x_and ?_) | (with_reducible refine x_or ?_) | (with_reducible refine x_tB ?_) | (with_reducible refine x_andV ?_) | (with_reducible refine x_notV ?_) | (with_reducible refine x_chain ?_) | (with_reducible refine x_chn ?_) | (with_reducible refine x_link ?_) | (with_reducible refine x_last ?_)
  | ((with_reducible refine x_eq ?s ?_); (case s => rfl)) | ((with_reducible refine x_ne ?s ?_); (case s => rfl))
  | (with_reducible refine x_tup ?_) | (with_reducible refine x_lst ?_) | (with_reducible refine x_disp (Nat.le_of_ble_eq_true rfl) ?_)
  | (with_reducible refine x_retN ?_) | (with_reducible refine x_drop ?_) | (with_reducible refine x_next ?_) | (with_reducible refine x_bk ?_) | (with_reducible refine x_ct ?_) | (with_reducible refine x_sfld ?_)
  | ((with_reducible refine' x_gtup ?h ?e ?q); (case h => walk_at "fx"); (case e => rfl)) | ((with_reducible refine' x_gunl ?h ?e ?q); (case h => walk_at "fx"); (case e => rfl))
  | (with_reducible refine x_gcons ?_) | (with_reducible refine x_gnil ?_) | (with_reducible refine x_gsub ?_)
  | (with_reducible refine x_for ?_) | ((with_reducible refine' x_lcSeq ?hv ?h ?q); (case hv => rfl); (case h => assumption)) | (with_reducible refine x_lc ?_) | (with_reducible refine x_yes ?_) | (with_reducible refine x_iList ?_) | (with_reducible refine x_iTup ?_) | (with_reducible refine x_iSeq ?_) | (with_reducible refine x_iZip ?_) | (with_reducible refine x_iEnum ?_) | (with_reducible refine x_iRng1 ?_)
  | ((with_reducible refine' x_itL ?h ?q); (case h => walk_at "fx")) | ((with_reducible refine' x_itT ?h ?q); (case h => walk_at "fx")) | ((with_reducible refine' x_itSL ?h ?q); (case h => walk_at "fx")) | ((with_reducible refine' x_itST ?h ?q); (case h => walk_at "fx"))
  | ((with_reducible refine' x_itZ ?h1 ?h2 ?q); (case h1 => walk_at "fx"); (case h2 => walk_at "fx")) | ((with_reducible refine' x_itE ?h ?q); (case h => walk_at "fx"))
  | ((with_reducible refine' x_lenL ?h ?q); (case h => walk_at "fx")) | ((with_reducible refine' x_lenT ?h ?q); (case h => walk_at "fx"))
  | ((with_reducible refine' x_lofB ?h ?q); (case h => assumption)) | ((with_reducible refine' x_lofL ?h ?q); (case h => walk_at "fx")) | ((with_reducible refine' x_lofT ?h ?q); (case h => walk_at "fx"))
  | ((with_reducible refine' x_augV ?hv ?h); (case hv => rfl)) | (with_reducible refine x_ipI ?_) | (with_reducible refine x_meth ?_) | ((with_reducible refine' x_mt ?h ?l ?q); (case h => walk_at "fx"); (case l => rfl)) | (with_reducible refine x_js ?_) | (with_reducible refine x_js0 ?_) | (with_reducible refine x_fmtI ?_) | (with_reducible refine x_make ?_) | (with_reducible refine x_bm ?_) | (with_reducible refine x_dget2 ?_) | ((with_reducible refine' x_isD ?h ?q); (case h => walk_at "fx")) | ((with_reducible refine' x_dg ?h ?q); (case h => walk_at "fx")) | (with_reducible refine x_din ?_) | ((with_reducible refine' x_dinA ?h ?q); (case h => walk_at "fx")) | (with_reducible refine x_dput ?_) | (with_reducible refine x_makeK ?_)
  | (with_reducible refine iteT ?_) | (with_reducible refine iteF ?_) | (with_reducible refine ifNT' ?_) | (with_reducible refine ifNF' ?_))
local macro_rules | `(tactic| walk_at "go") => `(tactic| repeat walk_at "step")
section
variable {P : Program} {w : World} {K : PySem.W.Frag} {mg : Str → Option Value} {base : Heap}
def spDeck (K : PySem.W.Frag) : Sp := fun vs H Q _ => ∃ (a : Addr) (ns : List Int), vs = [.ref a] ∧ SqL K H a (ns.map V.int) ∧ ∀ D H', D.ns = ns → Same H H' → H D.d = none → H D.sc = none → DeckAt H' D → Q (.ref D.d) H'
abbrev sc_law_deckN : List Str := ["_law_script"]
theorem sc_law_deck : FnScope sc_law_deckN ["_law_script"] (defScope s_law_deck) := ⟨rfl, rfl, rfl, by decide +kernel, rfl, by decide +kernel, by decide +kernel⟩
theorem k_law_deck (T : Txt K mg) : Kept P w K mg base CX0 1 "_law_deck" ["_law_script"] [] (spDeck K) := by
  obtain ⟨fd, F⟩ := T.f_law_deck
  refine ⟨_, fd, [], T.g__law_deck, F.kp, F.bindsN (ps := ["_law_script"]) (fun _ _ _ _ _ _ us hl => match us, hl with | [_], _ => rfl), .nil, ?_⟩
  refine ok0 F sc_law_deck (fun vs H Q E h => ?_) (fun cdv A outer s H vs Q E hr h => ?_)
  · obtain ⟨a, ns, rfl, _⟩ := h
    rfl
  refine ⟨_, (pss_one (ps_ret (pe_lst (pa_cons (pe_callTy (lofK K rfl) (by rfl) (Txt.n_list T) (by decide +kernel) (pa_cons (pv 0) pa_nil)) (pa_cons pe_int (pa_cons pe_int (pa_cons pe_int pa_nil))))))), ?_⟩
  obtain ⟨a, ns, rfl, ha, q⟩ := h
  walk_at "go"
  intro l H1 s1 n1 e1
  walk_at "go"
  intro d H2 s2 n2 e2
  walk_at "go"
  exact q ⟨d, l, ns⟩ _ rfl (s1.trans s2) (free_of s1 n2) n1 ⟨0, 0, 7, e2, s2 _ _ e1, (fun z => by rw [show l = d from z] at e1; rw [e1] at n2; cases n2), by decide⟩
def spDraw : Sp := fun vs H Q _ => ∃ (D : Dk) (m : Int), vs = [.ref D.d, .int m] ∧ 0 < m ∧ m < 1073741824 ∧ DeckAt H D ∧ ∀ r H', 0 ≤ r → r < m → Stp D.d H H' → DeckAt H' D → Q (.int r) H'
theorem ixN_at {n : Nat} {k : Int} {j : Nat} (h : k = j) (l : j < n) : ixN n k = some j := by
  unfold ixN
  subst h
  simp [l]
/-- the deck, moved, all else as in H0 -/
def Dkt (H0 H : Hp) (D : Dk) (i c s : Int) : Prop := H D.d = some (.lst [.ref D.sc, .int i, .int c, .int s]) ∧ ∀ b o, b ≠ D.d → H0 b = some o → H b = some o
theorem Dkt.st {H0 H : Hp} {D : Dk} {i c s i' c' s' : Int} (h : Dkt H0 H D i c s) : Dkt H0 (upd H D.d (.lst [.ref D.sc, .int i', .int c', .int s'])) D i' c' s' := ⟨upd_same, fun b o n e => by rw [upd_ne n]; exact h.2 b o n e⟩
theorem Dkt.al {H0 H H' : Hp} {D : Dk} {i c s : Int} (h : Dkt H0 H D i c s) (z : Same H H') : Dkt H0 H' D i c s := ⟨z _ _ h.1, fun b o n e => z b o (h.2 b o n e)⟩
theorem Dkt.done {H0 H : Hp} {D : Dk} {i c s : Int} (h : Dkt H0 H D i c s) (h0 : H0 D.sc = some (.lst (D.ns.map V.int))) (ne : D.sc ≠ D.d) (n0 : H0 D.d ≠ none) (hi : 0 ≤ i) : Stp D.d H0 H ∧ DeckAt H D :=
  ⟨⟨h.2, n0, fun z => by rw [h.1] at z; cases z⟩, i, c, s, h.1, h.2 _ _ ne h0, ne, hi⟩
theorem x_dst {H0 H : Hp} {D : Dk} {i c s i' c' s' : Int} (k : Dkt H0 H D i c s) {n : Int} {j : Nat} {v : V} {Q : Hp → Prop} (e : ixN 4 n = some j) (el : ([.ref D.sc, .int i, .int c, .int s] : List V).set j v = [.ref D.sc, .int i', .int c', .int s'])
    (q : ∀ H', Dkt H0 H' D i' c' s' → SqL K H' D.d [.ref D.sc, .int i', .int c', .int s'] → Q H') : rSetL (.ref D.d) (.int n) v H Q := x_set k.1 e (by rw [el]; exact q _ k.st (SqL.of upd_same))
abbrev sc_law_drawN : List Str := ["_law_deck_here", "_law_most", "_law_value", "_law_cell"]
theorem sc_law_draw : FnScope sc_law_drawN ["_law_deck_here", "_law_most"] (defScope s_law_draw) := ⟨rfl, rfl, rfl, by decide +kernel, rfl, by decide +kernel, by decide +kernel⟩
theorem k_law_draw (T : Txt K mg) : Kept P w K mg base CX0 1 "_law_draw" ["_law_deck_here", "_law_most"] [] (spDraw) := by
  obtain ⟨fd, F⟩ := T.f_law_draw
  refine ⟨_, fd, [], T.g__law_draw, F.kp, F.bindsN (ps := ["_law_deck_here", "_law_most"]) (fun _ _ _ _ _ _ us hl => match us, hl with | [_, _], _ => rfl), .nil, ?_⟩
  refine ok0 F sc_law_draw (fun vs H Q E h => ?_) (fun cdv A outer s H vs Q E hr h => ?_)
  · obtain ⟨D, m, rfl, _⟩ := h
    rfl
  refine ⟨_, (pss_cons (ps_if (pt_cmpR op_ge (pe_ix ix_list (pv 0) pe_int (fun _ _ => rfl)) (pv 1) (nomark _)) (pss_cons (ps_set (i := 2) sc_law_draw.nd rfl (.inl rfl) (pe_op op_mod (pe_callTy call_int1 (by rfl) (Txt.n_int T) (by decide +kernel) (pa_cons (pe_ix ix_list (pv 0) pe_int (fun _ _ => rfl)) pa_nil)) (pv 1)))
      (pss_cons (ps_asg (pe_op op_fdiv (pe_ix ix_list (pv 0) pe_int (fun _ _ => rfl)) (pv 1)) (pg_sub (pv 0) pe_int set_list))
      (pss_one (ps_ret (pv 2))))) pss_nil)
      (pss_cons (ps_set (i := 3) sc_law_draw.nd rfl (.inl rfl) pe_int)
      (pss_cons (ps_if (pt_cmpR op_lt (pe_ix ix_list (pv 0) pe_int (fun _ _ => rfl)) (pe_callB (lenK K rfl) (by rfl) (Txt.n_len T) PySem.boot_len (pa_cons (pe_ix ix_list (pv 0) pe_int (fun _ _ => rfl)) pa_nil)) (nomark _)) (pss_one (ps_set (i := 3) sc_law_draw.nd rfl (.inl rfl) (pe_ix ix_list (pe_ix ix_list (pv 0) pe_int (fun _ _ => rfl)) (pe_ix ix_list (pv 0) pe_int (fun _ _ => rfl)) (fun _ _ => rfl)))) pss_nil)
      (pss_cons (ps_asg (pe_op op_add (pe_ix ix_list (pv 0) pe_int (fun _ _ => rfl)) pe_int) (pg_sub (pv 0) pe_int set_list))
      (pss_cons (ps_asg pe_int (pg_sub (pv 0) pe_int set_list))
      (pss_cons (ps_if (pt_cmpR op_ge (pv 3) (pe_op op_pow pe_int pe_int) (nomark _)) (pss_cons (ps_asg (pe_op op_fdiv (pv 3) (pv 1)) (pg_sub (pv 0) pe_int set_list))
      (pss_one (ps_ret (pe_op op_mod (pe_callTy call_int1 (by rfl) (Txt.n_int T) (by decide +kernel) (pa_cons (pv 3) pa_nil)) (pv 1))))) pss_nil)
      (pss_cons (ps_asg (pe_op op_mod (pe_callTy call_int1 (by rfl) (Txt.n_int T) (by decide +kernel) (pa_cons (pe_op op_add (pe_op op_add (pe_op op_mul (pe_ix ix_list (pv 0) pe_int (fun _ _ => rfl)) pe_int) (pe_op op_mul (pv 3) pe_int)) (pe_op op_mul (pe_ix ix_list (pv 0) pe_int (fun _ _ => rfl)) pe_int)) pa_nil)) pe_int) (pg_sub (pv 0) pe_int set_list))
      (pss_cons (ps_asg (pe_op op_mod (pe_callTy call_int1 (by rfl) (Txt.n_int T) (by decide +kernel) (pa_cons (pe_op op_add (pe_op op_mul (pe_ix ix_list (pv 0) pe_int (fun _ _ => rfl)) pe_int) pe_int) pa_nil)) pe_int) (pg_sub (pv 0) pe_int set_list))
      (pss_one (ps_ret (pe_op op_mod (pe_callTy call_int1 (by rfl) (Txt.n_int T) (by decide +kernel) (pa_cons (pe_op op_fdiv (pe_ix ix_list (pv 0) pe_int (fun _ _ => rfl)) pe_int) pa_nil)) (pv 1)))))))))))), ?_⟩
  obtain ⟨D, m, rfl, m0, m1, hd, q⟩ := h
  have n0 := hd.ne
  obtain ⟨i, c, t, h1, h2, h3, h4⟩ := hd
  have sd : SqL K H D.d [.ref D.sc, .int i, .int c, .int t] := SqL.of h1
  have ss : SqL K H D.sc (D.ns.map V.int) := SqL.of h2
  have k0 : Dkt H H D i c t := ⟨h1, fun _ _ _ e => e⟩
  have fin : ∀ {H' : Hp} {i' c' t' : Int} (x : Int), Dkt H H' D i' c' t' → 0 ≤ i' → Q (.int (x % m)) H' := fun x k hi => by
    obtain ⟨a, b⟩ := k.done h2 h3 n0 hi
    exact q _ _ (Int.emod_nonneg _ (by omega)) (Int.emod_lt_of_pos _ m0) a b
  walk_at "go"
  refine ifD (fun _ => ?_) (fun _ => ?_)
  · walk_at "go"
    refine .inl ⟨c, rfl, ?_⟩
    walk_at "go"
    refine ⟨_, _, rfl, rfl, m0, ?_⟩
    walk_at "go"
    refine ⟨_, _, rfl, rfl, ⟨m0, m1⟩, ?_⟩
    walk_at "go"
    refine x_set h1 (ixN_at (j := 2) rfl (by show 2 < 4; decide)) ?_
    walk_at "go"
    exact fin c k0.st h4
  · walk_at "go"
    refine ifB (fun c0 => ?ca) (fun c0 => ?cb)
    case' ca =>
      have c1 : i < ((D.ns.map V.int).length : Int) := of_decide_eq_true c0
      rw [List.length_map] at c1
      obtain ⟨cell, ec⟩ := getI (l := D.ns) (i := i.toNat) (by omega)
      walk_at "go"
      refine x_ixL (v := .int cell) ss (atI_of h4 (by rw [List.getElem?_map, ec]; rfl)) ?_
    case' cb => skip
    all_goals
      walk_at "go"
      refine x_dst (K := K) k0 (ixN_at (j := 1) rfl (by decide)) rfl fun H1 k1 s1 => ?_
      walk_at "go"
      refine x_dst (K := K) k1 (ixN_at (j := 2) rfl (by decide)) rfl fun H2 k2 s2 => ?_
      walk_at "go"
      refine ⟨10, 18, rfl, rfl, ⟨by decide, by decide, by decide⟩, ?_⟩
      walk_at "go"
      refine ifB (fun c2 => ?_) (fun c2 => ?_)
      · walk_at "go"
        refine ⟨_, _, rfl, rfl, ⟨m0, m1⟩, ?_⟩
        walk_at "go"
        refine x_set k2.1 (ixN_at (j := 2) rfl (by show 2 < 4; decide)) ?_
        walk_at "go"
        refine .inl ⟨_, rfl, ?_⟩
        walk_at "go"
        refine ⟨_, _, rfl, rfl, m0, ?_⟩
        walk_at "go"
        exact fin _ k2.st (by omega)
      · walk_at "go"
        refine ⟨_, _, rfl, rfl, .inr ⟨by decide, by decide⟩, ?_⟩
        walk_at "go"
        refine ⟨_, _, rfl, rfl, .inr ⟨by decide, by decide⟩, ?_⟩
        walk_at "go"
        refine ⟨_, _, rfl, rfl, .inr ⟨by decide, by decide⟩, ?_⟩
        walk_at "go"
        refine .inl ⟨_, rfl, ?_⟩
        walk_at "go"
        refine ⟨_, _, rfl, rfl, (by decide : (0 : Int) < 2147483647), ?_⟩
        walk_at "go"
        refine x_dst (K := K) k2 (ixN_at (j := 3) rfl (by decide)) rfl fun H3 k3 s3 => ?_
        walk_at "go"
        refine ⟨_, _, rfl, rfl, .inr ⟨by decide, by decide⟩, ?_⟩
        walk_at "go"
        refine .inl ⟨_, rfl, ?_⟩
        walk_at "go"
        refine ⟨_, _, rfl, rfl, (by decide : (0 : Int) < 2147483647), ?_⟩
        walk_at "go"
        refine x_dst (K := K) k3 (ixN_at (j := 3) rfl (by decide)) rfl fun H4 k4 s4 => ?_
        walk_at "go"
        refine ⟨_, _, rfl, rfl, ⟨by decide, by decide⟩, ?_⟩
        walk_at "go"
        refine .inl ⟨_, rfl, ?_⟩
        walk_at "go"
        refine ⟨_, _, rfl, rfl, m0, ?_⟩
        walk_at "go"
        exact fin _ k4 (by omega)
end
end Fl
set_option Elab.async false
set_option linter.all false
set_option maxRecDepth 100000
set_option maxHeartbeats 4000000
/-! Things drawn. -/
namespace Fl
open PySem PySem.Spec PyProof.Rows L2
local macro_rules | `(tactic| walk_at "fx") => `(tactic| first | assumption | solve_by_elim [seqT, Same.trans, Same.seq])
local macro_rules | `(tactic| walk_at "cl") => `(tactic| first | assumption | exact Txt.c_Glyph (by assumption) | exact Txt.c_Font (by assumption) | exact Txt.c_Moves (by assumption))
local macro_rules | `(tactic| walk_at "na") => `(tactic| first | assumption | exact Txt.a_Glyph_advance (by assumption) | exact Txt.a_Glyph_outline (by assumption) | exact Txt.a_Glyph_parts (by assumption) | exact Txt.a_Glyph_anchors (by assumption) | exact Txt.a_Glyph_mark (by assumption) | exact Txt.a_Glyph_deltas (by assumption) | exact Txt.a_Glyph_hint (by assumption) | exact Txt.a_Font_unit (by assumption) | exact Txt.a_Font_glyphs (by assumption) | exact Txt.a_Font_chars (by assumption) | exact Txt.a_Font_lookups (by assumption) | exact Txt.a_Font_features (by assumption) | exact Txt.a_Font_axes (by assumption) | exact Txt.a_Font_regions (by assumption) | exact Txt.a_Font_functions (by assumption) | exact Txt.a_Font_presets (by assumption) | exact Txt.a_Moves_sums (by assumption))
local macro_rules | `(tactic| walk_at "step") => `(tactic| first
  | (with_reducible refine x_c ?_)
  | ((with_reducible show tVar _ _ _ _); refine ⟨_, rfl, ?_⟩)
  | (with_reducible refine x_op ?_) | (with_reducible refine x_seq ?_) | (with_reducible refine x_nx ?_) | (with_reducible refine x_asg ?_) | (with_reducible refine x_name ?_)
  | ((with_reducible show rI0 _ _ _ _ _); refine ⟨_, _, rfl, rfl, ?_⟩)
  | (with_reducible refine x_ret ?_) | (with_reducible refine x_rt ?_) | (with_reducible refine x_ifS ?_) | (with_reducible refine x_test ?_) | (with_reducible refine x_bl ?_)
  | (with_reducible refine x_cons ?_) | (with_reducible refine x_nil ?_) | (with_reducible refine x_call ?_) | (with_reducible refine x_CB ?_)
  | ((with_reducible refine' x_ixT ?h ?e ?q); (case h => walk_at "fx"); (case e => rfl))
  | ((with_reducible refine' x_ixL ?h ?e ?q); (case h => walk_at "fx"); (case e => rfl))
  | (with_reducible refine x_fld ?_)
  | ((with_reducible refine' x_at ?h ?c ?n ?l ?q); (case h => walk_at "fx"); (case c => walk_at "cl"); (case n => walk_at "na"); (case l => rfl))
  | (with_reducible refine x_un ?_) | ((with_reducible show rU _ _ _ _); refine ⟨_, rfl, ?_⟩)
  | (with_reducible refine x_not ?_) | (with_reducible refine x_and ?_) | (with_reducible refine x_or ?_) | (with_reducible refine x_tB ?_) | (with_reducible refine x_andV ?_) | (with_reducible refine x_notV ?_) | (with_reducible refine x_chain ?_) | (with_reducible refine x_chn ?_) | (with_reducible refine x_link ?_) | (with_reducible refine x_last ?_)
  | ((with_reducible refine x_eq ?s ?_); (case s => rfl)) | ((with_reducible refine x_ne ?s ?_); (case s => rfl))
  | (with_reducible refine x_tup ?_) | (with_reducible refine x_lst ?_) | (with_reducible refine x_disp (Nat.le_of_ble_eq_true rfl) ?_)
  | (with_reducible refine x_retN ?_) | (with_reducible refine x_drop ?_) | (with_reducible refine x_next ?_) | (with_reducible refine x_bk ?_) | (with_reducible refine x_ct ?_) | (with_reducible refine x_sfld ?_)
  | ((with_reducible refine' x_gtup ?h ?e ?q); (case h => walk_at "fx"); (case e => rfl)) | ((with_reducible refine' x_gunl ?h ?e ?q); (case h => walk_at "fx"); (case e => rfl))
  | (with_reducible refine x_gcons ?_) | (with_reducible refine x_gnil ?_) | (with_reducible refine x_gsub ?_)
  | (with_reducible refine x_for ?_) | ((with_reducible refine' x_lcSeq ?hv ?h ?q); (case hv => rfl); (case h => assumption)) | (with_reducible refine x_lc ?_) | (with_reducible refine x_yes ?_) | (with_reducible refine x_iList ?_) | (with_reducible refine x_iTup ?_) | (with_reducible refine x_iSeq ?_) | (with_reducible refine x_iZip ?_) | (with_reducible refine x_iEnum ?_) | (with_reducible refine x_iRng1 ?_)
  | ((with_reducible refine' x_itL ?h ?q); (case h => walk_at "fx")) | ((with_reducible refine' x_itT ?h ?q); (case h => walk_at "fx")) | ((with_reducible refine' x_itSL ?h ?q); (case h => walk_at "fx")) | ((with_reducible refine' x_itST ?h ?q); (case h => walk_at "fx"))
  | ((with_reducible refine' x_itZ ?h1 ?h2 ?q); (case h1 => walk_at "fx"); (case h2 => walk_at "fx")) | ((with_reducible refine' x_itE ?h ?q); (case h => walk_at "fx"))
  | ((with_reducible refine' x_lenL ?h ?q); (case h => walk_at "fx")) | ((with_reducible refine' x_lenT ?h ?q); (case h => walk_at "fx"))
  | ((with_reducible refine' x_lofB ?h ?q); (case h => assumption)) | ((with_reducible refine' x_lofL ?h ?q); (case h => walk_at "fx")) | ((with_reducible refine' x_lofT ?h ?q); (case h => walk_at "fx"))
  | ((with_reducible refine' x_augV ?hv ?h); (case hv => rfl)) | (with_reducible refine x_ipI ?_) | (with_reducible refine x_meth ?_) | ((with_reducible refine' x_mt ?h ?l ?q); (case h => walk_at "fx"); (case l => rfl)) | (with_reducible refine x_js ?_) | (with_reducible refine x_js0 ?_) | (with_reducible refine x_fmtI ?_) | (with_reducible refine x_make ?_) | (with_reducible refine x_bm ?_) | (with_reducible refine x_dget2 ?_) | ((with_reducible refine' x_isD ?h ?q); (case h => walk_at "fx")) | ((with_reducible refine' x_dg ?h ?q); (case h => walk_at "fx")) | (with_reducible refine x_din ?_) | ((with_reducible refine' x_dinA ?h ?q); (case h => walk_at "fx")) | (with_reducible refine x_dput ?_) | (with_reducible refine x_makeK ?_)
  | (with_reducible refine iteT ?_) | (with_reducible refine iteF ?_) | (with_reducible refine ifNT' ?_) | (with_reducible refine ifNF' ?_))
local macro_rules | `(tactic| walk_at "go") => `(tactic| repeat walk_at "step")
section
variable {P : Program} {w : World} {K : PySem.W.Frag} {mg : Str → Option Value} {base : Heap}
/-! ### _law_point -/
def ptOk (p : Pt) : Prop := near p.1 ∧ near p.2.1
def spPoint (K : PySem.W.Frag) : Sp := fun vs H Q _ => ∃ D : Dk, vs = [.ref D.d, .int 16384] ∧ DeckAt H D ∧ DGives K D H Q ptOk ptD
abbrev sc_law_pointN : List Str := ["_law_deck_here", "_law_far", "_law_spread", "_law_x"]
theorem sc_law_point : FnScope sc_law_pointN ["_law_deck_here", "_law_far"] (defScope s_law_point) := ⟨rfl, rfl, rfl, by decide +kernel, rfl, by decide +kernel, by decide +kernel⟩
theorem k_law_point (T : Txt K mg) : Kept P w K mg base CX0 2 "_law_point" ["_law_deck_here", "_law_far"] [] (spPoint K) := by
  obtain ⟨fd, F⟩ := T.f_law_point
  refine ⟨_, fd, [], T.g__law_point, F.kp, F.bindsN (ps := ["_law_deck_here", "_law_far"]) (fun _ _ _ _ _ _ us hl => match us, hl with | [_, _], _ => rfl), .nil, ?_⟩
  refine ok0 F sc_law_point (fun vs H Q E h => ?_) (fun cdv A outer s H vs Q E hr h => ?_)
  · obtain ⟨D, rfl, _⟩ := h
    rfl
  refine ⟨_, (pss_cons (ps_set (i := 2) sc_law_point.nd rfl (.inl rfl) (pe_ix ix_list (pe_lst (pa_cons pe_int (pa_cons pe_int (pa_cons (pv 1) pa_nil)))) (pe_kc (k_law_draw T) (by decide) hr (by rfl) pass0 (pa_cons (pv 0) (pa_cons pe_int pa_nil))) (fun _ _ => rfl)))
      (pss_cons (ps_set (i := 3) sc_law_point.nd rfl (.inl rfl) (pe_op op_sub (pe_kc (k_law_draw T) (by decide) hr (by rfl) pass0 (pa_cons (pv 0) (pa_cons (pe_op op_add (pe_op op_mul pe_int (pv 2)) pe_int) pa_nil))) (pv 2)))
      (pss_one (ps_ret (pe_tup (pa_cons (pv 3) (pa_cons (pe_op op_sub (pe_kc (k_law_draw T) (by decide) hr (by rfl) pass0 (pa_cons (pv 0) (pa_cons (pe_op op_add (pe_op op_mul pe_int (pv 2)) pe_int) pa_nil))) (pv 2)) (pa_cons (pe_cmpR op_eq (pe_kc (k_law_draw T) (by decide) hr (by rfl) pass0 (pa_cons (pv 0) (pa_cons pe_int pa_nil))) pe_int (nomark _)) pa_nil)))))))), ?_⟩
  obtain ⟨D, rfl, hd, q⟩ := h
  walk_at "go"
  intro t H1 s1 n1 e1
  walk_at "go"
  refine ⟨D, 3, rfl, by decide, by decide, hd.same s1, fun r H2 r0 r1 st2 hd2 => ?_⟩
  have td : t ≠ D.d := fun z => hd.ne (by rw [← z]; exact n1)
  obtain ⟨sp, esp, l0, l1⟩ := three_ix (a := 9) (b := 130) (c := 16384) (C := fun x => 0 ≤ x ∧ x ≤ 16384) r0 r1 (by decide) (by decide) (by decide)
  refine x_ixL (SqL.of (st2.1 _ _ td e1)) esp ?_
  walk_at "go"
  refine ⟨_, _, rfl, rfl, .inl ⟨by decide, by decide⟩, ?_⟩
  walk_at "go"
  refine ⟨D, _, rfl, by omega, by omega, hd2, fun x H3 x0 x1 st3 hd3 => ?_⟩
  walk_at "go"
  refine ⟨_, _, rfl, rfl, .inl ⟨by decide, by decide⟩, ?_⟩
  walk_at "go"
  refine ⟨D, _, rfl, by omega, by omega, hd3, fun y H4 y0 y1 st4 hd4 => ?_⟩
  walk_at "go"
  refine ⟨D, 2, rfl, by decide, by decide, hd4, fun b H5 b0 b1 st5 hd5 => ?_⟩
  walk_at "go"
  intro u H6 s6 n6 e6
  walk_at "go"
  have sA := ((((Stp.of s1 hd.ne).trans st2).trans st3).trans st4).trans st5
  exact q (x - sp, y - sp, decide (V.int b = V.int 0)) _ _ ⟨by show near (x - sp); omega, by show near (y - sp); omega⟩ (sA.trans (Stp.of s6 sA.2.2)) (hd5.same s6) (pt_dp (p := (x - sp, y - sp, decide (V.int b = V.int 0))) (tup_nw (n := sA.dom _ n6) e6))
/-! ### _law_outline -/
def spOutl (K : PySem.W.Frag) : Sp := fun vs H Q _ => ∃ D : Dk, vs = [.ref D.d, .int 2, .int 16384] ∧ DeckAt H D ∧ DGives K D H Q OutOk outD
abbrev sc_law_outlineN : List Str := ["_law_deck_here", "_law_least", "_law_far", "_law_outline_here", "_law_k", "_law_j"]
theorem sc_law_outline : FnScope sc_law_outlineN ["_law_deck_here", "_law_least", "_law_far"] (defScope s_law_outline) := ⟨rfl, rfl, rfl, by decide +kernel, rfl, by decide +kernel, by decide +kernel⟩
theorem k_law_outline (T : Txt K mg) : Kept P w K mg base CX0 3 "_law_outline" ["_law_deck_here", "_law_least", "_law_far"] [] (spOutl K) := by
  obtain ⟨fd, F⟩ := T.f_law_outline
  refine ⟨_, fd, [], T.g__law_outline, F.kp, F.bindsN (ps := ["_law_deck_here", "_law_least", "_law_far"]) (fun _ _ _ _ _ _ us hl => match us, hl with | [_, _, _], _ => rfl), .nil, ?_⟩
  refine ok0 F sc_law_outline (fun vs H Q E h => ?_) (fun cdv A outer s H vs Q E hr h => ?_)
  · obtain ⟨D, rfl, _⟩ := h
    rfl
  refine ⟨_, (pss_cons (ps_set (i := 3) sc_law_outline.nd rfl (.inl rfl) (pe_lst pa_nil))
      (pss_cons (ps_for PassesOwn.never rfl (pi_range1 (by rfl) (Txt.n_range T) (pa_cons (pe_kc (k_law_draw T) (by decide) hr (by rfl) pass0 (pa_cons (pv 0) (pa_cons pe_int pa_nil))) pa_nil)) (pg_name (i := 4) sc_law_outline.nd rfl (.inl rfl)) (pss_one (ps_expr (pe_bm PySem.F.plainAttrs_list PySem.F.slot_list_append PySem.F.type_list_append mt_append (pv 3) (pa_cons (pe_lc (own := [("_law_j", 5)]) (tt := tYes) rfl sc_law_outline.nd (pi_range1 (by rfl) (Txt.n_range T) (pa_cons (pe_op op_add (pv 1) (pe_kc (k_law_draw T) (by decide) hr (by rfl) pass0 (pa_cons (pv 0) (pa_cons pe_int pa_nil)))) pa_nil)) (blkOk_by (N := sc_law_outlineN) (sc := (defScope s_law_outline)) (by decide +kernel)) (fun _ _ _ _ _ => (pg_name (i := 5) sc_law_outline.nd rfl (.inl rfl))) (fun _ _ _ _ _ => pts_nil) (fun _ _ _ _ _ => (pe_kc (k_law_point T) (by decide) hr (by rfl) pass0 (pa_cons (pv 0) (pa_cons (pv 2) pa_nil))))) pa_nil)))))
      (pss_one (ps_ret (pv 3))))), ?_⟩
  obtain ⟨D, rfl, hd, q⟩ := h
  walk_at "go"
  intro p H1 s1 n1 e1
  walk_at "go"
  have st1 := Stp.of s1 hd.ne
  refine ⟨D, 4, rfl, by decide, by decide, hd.same s1, fun r H2 r0 r1 st2 hd2 => ?_⟩
  walk_at "go"
  refine ⟨_, rfl, by omega, by omega, ?_⟩
  refine for_at r.toNat (fun i σ' H' => Stp D.d H H' ∧ DeckAt H' D ∧ ∃ (o : Outl) (y4 y5 : Option V), σ' = [some (.ref D.d), some (.int 2), some (.int 16384), some (.ref p), y4, y5] ∧ Lst K H p H' (o.map conD) ∧ o.length = i ∧ (∀ c ∈ o, 2 ≤ c.length ∧ c.length ≤ 8) ∧ ∀ c ∈ o, ∀ p ∈ c, ptOk p)
    ⟨st1.trans st2, hd2, [], _, _, rfl, (Lst.start n1 e1).keepS st2 hd.ne, rfl, fun c h => (by cases h), fun c h => (by cases h)⟩ (fun i σ' H' lt F => ?_) (fun σ' H' F => ?_)
  · obtain ⟨st, hd', o, y4, y5, rfl, L, lo, c2, cp⟩ := F
    refine ⟨lt, fun x H3 yy => ?_⟩
    obtain ⟨rfl, rfl⟩ := yy
    walk_at "go"
    refine ⟨L.ty, ?_⟩
    walk_at "go"
    refine ⟨D, 6, rfl, by decide, by decide, hd', fun r2 H4 r20 r21 st4 hd4 => ?_⟩
    have L := L.keepS st4 hd.ne
    have st := st.trans st4
    walk_at "go"
    refine ⟨_, rfl, by omega, by omega, ?_⟩
    intro Lx nL
    refine lc_draw (K := K) (D := D) ptD ptOk (walkS_rng (n := (2 + r2).toNat)) (by omega) nL hd4 (fun j x H5 lt5 st5 hd5 ex P cl => ?_) (fun H5 acc as st5 hd5 las hC hL hdp => ?_)
    · subst ex
      walk_at "go"
      refine ⟨rfl, ?_⟩
      walk_at "go"
      exact ⟨D, rfl, hd5, fun pt v H6 k1 k2 k3 k4 => cl v H6 pt k2 k3 k1 k4⟩
    · have hp4 := L.ne
      have L := L.keepS st5 hd.ne
      have dc : Dp K (nw H4 H5) (.ref Lx) (conD as) := lst_dp nL hL hdp
      walk_at "go"
      obtain ⟨acc2, ea, la, L3⟩ := L.new st.dom hp4 dc (by rw [List.length_map]; omega)
      refine x_app ea la ?_
      walk_at "go"
      refine ⟨(st.trans st5).app n1, hd5.app hd n1, o ++ [as], _, _, rfl, by rw [List.map_append]; exact L3, by rw [List.length_append, lo]; rfl, fun c hc => ?_, fun c hc => ?_⟩
      · rcases List.mem_append.mp hc with hc | hc
        · exact c2 c hc
        · rw [List.mem_singleton.mp hc, las]
          omega
      · rcases List.mem_append.mp hc with hc | hc
        · exact cp c hc
        · rw [List.mem_singleton.mp hc]
          exact hC
  · obtain ⟨st, hd', o, y4, y5, rfl, L, lo, c2, cp⟩ := F
    refine ⟨Nat.le_refl _, ?_⟩
    walk_at "go"
    exact q o _ _ ⟨by omega, c2, cp⟩ st hd' L.done
/-! ### _law_axes -/
def axesOk (as : List Ax) : Prop := 1 ≤ as.length ∧ as.length ≤ 3 ∧ ∀ a ∈ as, -200 ≤ a.1 ∧ a.1 ≤ a.2.1 ∧ a.2.1 ≤ a.2.2 ∧ a.2.2 ≤ 700
def spAxes (K : PySem.W.Frag) : Sp := fun vs H Q _ => ∃ D : Dk, vs = [.ref D.d, .int 1] ∧ DeckAt H D ∧ DGives K D H Q axesOk fun as => .list (as.map t3D)
theorem mul_le2 {a b : Int} (a0 : 0 ≤ a) (a1 : a < 3) (b0 : 0 ≤ b) (b1 : b < 120) : 0 ≤ a * b ∧ a * b ≤ 238 := by
  have h : a = 0 ∨ a = 1 ∨ a = 2 := by omega
  rcases h with rfl | rfl | rfl <;> omega
abbrev sc_law_axesN : List Str := ["_law_deck_here", "_law_least", "_law_axes_here", "_law_k", "_law_low", "_law_normal"]
theorem sc_law_axes : FnScope sc_law_axesN ["_law_deck_here", "_law_least"] (defScope s_law_axes) := ⟨rfl, rfl, rfl, by decide +kernel, rfl, by decide +kernel, by decide +kernel⟩
theorem k_law_axes (T : Txt K mg) : Kept P w K mg base CX0 2 "_law_axes" ["_law_deck_here", "_law_least"] [] (spAxes K) := by
  obtain ⟨fd, F⟩ := T.f_law_axes
  refine ⟨_, fd, [], T.g__law_axes, F.kp, F.bindsN (ps := ["_law_deck_here", "_law_least"]) (fun _ _ _ _ _ _ us hl => match us, hl with | [_, _], _ => rfl), .nil, ?_⟩
  refine ok0 F sc_law_axes (fun vs H Q E h => ?_) (fun cdv A outer s H vs Q E hr h => ?_)
  · obtain ⟨D, rfl, _⟩ := h
    rfl
  refine ⟨_, (pss_cons (ps_set (i := 2) sc_law_axes.nd rfl (.inl rfl) (pe_lst pa_nil))
      (pss_cons (ps_for PassesOwn.never rfl (pi_range1 (by rfl) (Txt.n_range T) (pa_cons (pe_op op_add (pv 1) (pe_kc (k_law_draw T) (by decide) hr (by rfl) pass0 (pa_cons (pv 0) (pa_cons pe_int pa_nil)))) pa_nil)) (pg_name (i := 3) sc_law_axes.nd rfl (.inl rfl)) (pss_cons (ps_set (i := 4) sc_law_axes.nd rfl (.inl rfl) (pe_op op_sub (pe_kc (k_law_draw T) (by decide) hr (by rfl) pass0 (pa_cons (pv 0) (pa_cons pe_int pa_nil))) pe_int))
      (pss_cons (ps_set (i := 5) sc_law_axes.nd rfl (.inl rfl) (pe_op op_add (pv 4) (pe_op op_mul (pe_kc (k_law_draw T) (by decide) hr (by rfl) pass0 (pa_cons (pv 0) (pa_cons pe_int pa_nil))) (pe_kc (k_law_draw T) (by decide) hr (by rfl) pass0 (pa_cons (pv 0) (pa_cons pe_int pa_nil))))))
      (pss_one (ps_expr (pe_bm PySem.F.plainAttrs_list PySem.F.slot_list_append PySem.F.type_list_append mt_append (pv 2) (pa_cons (pe_tup (pa_cons (pv 4) (pa_cons (pv 5) (pa_cons (pe_op op_add (pv 5) (pe_op op_mul (pe_kc (k_law_draw T) (by decide) hr (by rfl) pass0 (pa_cons (pv 0) (pa_cons pe_int pa_nil))) (pe_kc (k_law_draw T) (by decide) hr (by rfl) pass0 (pa_cons (pv 0) (pa_cons pe_int pa_nil))))) pa_nil)))) pa_nil)))))))
      (pss_one (ps_ret (pv 2))))), ?_⟩
  obtain ⟨D, rfl, hd, q⟩ := h
  walk_at "go"
  intro p H1 s1 n1 e1
  walk_at "go"
  have st1 := Stp.of s1 hd.ne
  refine ⟨D, 3, rfl, by decide, by decide, hd.same s1, fun r H2 r0 r1 st2 hd2 => ?_⟩
  walk_at "go"
  refine ⟨_, rfl, by omega, by omega, ?_⟩
  refine for_at (1 + r).toNat (fun i σ' H' => Stp D.d H H' ∧ DeckAt H' D ∧ ∃ (o : List Ax) (y3 y4 y5 : Option V), σ' = [some (.ref D.d), some (.int 1), some (.ref p), y3, y4, y5] ∧ Lst K H p H' (o.map t3D) ∧ o.length = i ∧ ∀ a ∈ o, -200 ≤ a.1 ∧ a.1 ≤ a.2.1 ∧ a.2.1 ≤ a.2.2 ∧ a.2.2 ≤ 700)
    ⟨st1.trans st2, hd2, [], _, _, _, rfl, (Lst.start n1 e1).keepS st2 hd.ne, rfl, fun c h => (by cases h)⟩ (fun i σ' H' lt F => ?_) (fun σ' H' F => ?_)
  · obtain ⟨st, hd', o, y3, y4, y5, rfl, L, lo, ao⟩ := F
    refine ⟨lt, fun x H3 yy => ?_⟩
    obtain ⟨rfl, rfl⟩ := yy
    walk_at "go"
    refine ⟨D, 400, rfl, by decide, by decide, hd', fun a H3 a0 a1 st3 hd3 => ?_⟩
    walk_at "go"
    refine ⟨D, 3, rfl, by decide, by decide, hd3, fun b H4 b0 b1 st4 hd4 => ?_⟩
    walk_at "go"
    refine ⟨D, 120, rfl, by decide, by decide, hd4, fun c H5 c0 c1 st5 hd5 => ?_⟩
    walk_at "go"
    refine ⟨_, _, rfl, rfl, .inl ⟨by omega, by omega⟩, ?_⟩
    walk_at "go"
    have L := ((L.keepS st3 hd.ne).keepS st4 hd.ne).keepS st5 hd.ne
    refine ⟨L.ty, ?_⟩
    walk_at "go"
    refine ⟨D, 3, rfl, by decide, by decide, hd5, fun e H6 e0 e1 st6 hd6 => ?_⟩
    walk_at "go"
    refine ⟨D, 120, rfl, by decide, by decide, hd6, fun f H7 f0 f1 st7 hd7 => ?_⟩
    walk_at "go"
    refine ⟨_, _, rfl, rfl, .inl ⟨by omega, by omega⟩, ?_⟩
    walk_at "go"
    intro u H8 s8 n8 e8
    have st7 := ((((st.trans st3).trans st4).trans st5).trans st6).trans st7
    have L := (L.keepS st6 hd.ne).keepS ‹Stp D.d H6 H7› hd.ne
    have hp7 := L.ne
    have L := L.keep s8
    have b1 := mul_le2 b0 b1 c0 c1
    have b2 := mul_le2 e0 e1 f0 f1
    walk_at "go"
    obtain ⟨acc2, ea, la, L3⟩ := L.new st7.dom hp7 (t3_dp (p := (a - 200, a - 200 + b * c, a - 200 + b * c + e * f)) (tup_nw (n := n8) e8)) (by rw [List.length_map]; omega)
    refine x_app ea la ?_
    walk_at "go"
    refine ⟨(st7.trans (Stp.of s8 st7.2.2)).app n1, (hd7.same s8).app hd n1, o ++ [_], _, _, _, rfl, by rw [List.map_append]; exact L3, by rw [List.length_append, lo]; rfl, fun z hz => ?_⟩
    rcases List.mem_append.mp hz with hz | hz
    · exact ao z hz
    · rw [List.mem_singleton.mp hz]
      simp only
      omega
  · obtain ⟨st, hd', o, y3, y4, y5, rfl, L, lo, ao⟩ := F
    refine ⟨Nat.le_refl _, ?_⟩
    walk_at "go"
    exact q o _ _ ⟨by omega, by omega, ao⟩ st hd' L.done
end
end Fl
set_option Elab.async false
set_option linter.all false
set_option maxRecDepth 100000
set_option maxHeartbeats 4000000
/-! Tents, places, deltas drawn. -/
namespace Fl
open PySem PySem.Spec PyProof.Rows L2
local macro_rules | `(tactic| walk_at "fx") => `(tactic| first | assumption | solve_by_elim [seqT, Same.trans, Same.seq])
local macro_rules | `(tactic| walk_at "cl") => `(tactic| first | assumption | exact Txt.c_Glyph (by assumption) | exact Txt.c_Font (by assumption) | exact Txt.c_Moves (by assumption))
local macro_rules | `(tactic| walk_at "na") => `(tactic| first | assumption | exact Txt.a_Glyph_advance (by assumption) | exact Txt.a_Glyph_outline (by assumption) | exact Txt.a_Glyph_parts (by assumption) | exact Txt.a_Glyph_anchors (by assumption) | exact Txt.a_Glyph_mark (by assumption) | exact Txt.a_Glyph_deltas (by assumption) | exact Txt.a_Glyph_hint (by assumption) | exact Txt.a_Font_unit (by assumption) | exact Txt.a_Font_glyphs (by assumption) | exact Txt.a_Font_chars (by assumption) | exact Txt.a_Font_lookups (by assumption) | exact Txt.a_Font_features (by assumption) | exact Txt.a_Font_axes (by assumption) | exact Txt.a_Font_regions (by assumption) | exact Txt.a_Font_functions (by assumption) | exact Txt.a_Font_presets (by assumption) | exact Txt.a_Moves_sums (by assumption))
local macro_rules | `(tactic| walk_at "step") => `(tactic| first
  | (with_reducible refine x_c ?_)
  | ((with_reducible show tVar _ _ _ _); refine ⟨_, rfl, ?_⟩)
  | (with_reducible refine x_op ?_) | (with_reducible refine x_seq ?_) | (with_reducible refine x_nx ?_) | (with_reducible refine x_asg ?_) | (with_reducible refine x_name ?_)
  | ((with_reducible show rI0 _ _ _ _ _); refine ⟨_, _, rfl, rfl, ?_⟩)
  | (with_reducible refine x_ret ?_) | (with_reducible refine x_rt ?_) | (with_reducible refine x_ifS ?_) | (with_reducible refine x_test ?_) | (with_reducible refine x_bl ?_)
  | (with_reducible refine x_cons ?_) | (with_reducible refine x_nil ?_) | (with_reducible refine x_call ?_) | (with_reducible refine x_CB ?_)
  | ((with_reducible refine' x_ixT ?h ?e ?q); (case h => walk_at "fx"); (case e => rfl))
  | ((with_reducible refine' x_ixL ?h ?e ?q); (case h => walk_at "fx"); (case e => rfl))
  | (with_reducible refine x_fld ?_)
  | ((with_reducible refine' x_at ?h ?c ?n ?l ?q); (case h => walk_at "fx"); (case c => walk_at "cl"); (case n => walk_at "na"); (case l => rfl))
  | (with_reducible refine x_un ?_) | ((with_reducible show rU _ _ _ _); refine ⟨_, rfl, ?_⟩)
  | (with_reducible refine x_not ?_) | (with_reducible refine x_and ?_) | (with_reducible refine x_or ?_) | (with_reducible refine x_tB ?_) | (with_reducible refine x_andV ?_) | (with_reducible refine x_notV ?_) | (with_reducible refine x_chain ?_) | (with_reducible refine x_chn ?_) | (with_reducible refine x_link ?_) | (with_reducible refine x_last ?_)
  | ((with_reducible refine x_eq ?s ?_); (case s => rfl)) | ((with_reducible refine x_ne ?s ?_); (case s => rfl))
  | (with_reducible refine x_tup ?_) | (with_reducible refine x_lst ?_) | (with_reducible refine x_disp (Nat.le_of_ble_eq_true rfl) ?_)
  | (with_reducible refine x_retN ?_) | (with_reducible refine x_drop ?_) | (with_reducible refine x_next ?_) | (with_reducible refine x_bk ?_) | (with_reducible refine x_ct ?_) | (with_reducible refine x_sfld ?_)
  | ((with_reducible refine' x_gtup ?h ?e ?q); (case h => walk_at "fx"); (case e => rfl)) | ((with_reducible refine' x_gunl ?h ?e ?q); (case h => walk_at "fx"); (case e => rfl))
  | (with_reducible refine x_gcons ?_) | (with_reducible refine x_gnil ?_) | (with_reducible refine x_gsub ?_)
  | (with_reducible refine x_for ?_) | ((with_reducible refine' x_lcSeq ?hv ?h ?q); (case hv => rfl); (case h => assumption)) | (with_reducible refine x_lc ?_) | (with_reducible refine x_yes ?_) | (with_reducible refine x_iList ?_) | (with_reducible refine x_iTup ?_) | (with_reducible refine x_iSeq ?_) | (with_reducible refine x_iZip ?_) | (with_reducible refine x_iEnum ?_) | (with_reducible refine x_iRng1 ?_)
  | ((with_reducible refine' x_itL ?h ?q); (case h => walk_at "fx")) | ((with_reducible refine' x_itT ?h ?q); (case h => walk_at "fx")) | ((with_reducible refine' x_itSL ?h ?q); (case h => walk_at "fx")) | ((with_reducible refine' x_itST ?h ?q); (case h => walk_at "fx"))
  | ((with_reducible refine' x_itZ ?h1 ?h2 ?q); (case h1 => walk_at "fx"); (case h2 => walk_at "fx")) | ((with_reducible refine' x_itE ?h ?q); (case h => walk_at "fx"))
  | ((with_reducible refine' x_lenL ?h ?q); (case h => walk_at "fx")) | ((with_reducible refine' x_lenT ?h ?q); (case h => walk_at "fx"))
  | ((with_reducible refine' x_lofB ?h ?q); (case h => assumption)) | ((with_reducible refine' x_lofL ?h ?q); (case h => walk_at "fx")) | ((with_reducible refine' x_lofT ?h ?q); (case h => walk_at "fx"))
  | ((with_reducible refine' x_augV ?hv ?h); (case hv => rfl)) | (with_reducible refine x_ipI ?_) | (with_reducible refine x_meth ?_) | ((with_reducible refine' x_mt ?h ?l ?q); (case h => walk_at "fx"); (case l => rfl)) | (with_reducible refine x_js ?_) | (with_reducible refine x_js0 ?_) | (with_reducible refine x_fmtI ?_) | (with_reducible refine x_make ?_) | (with_reducible refine x_bm ?_) | (with_reducible refine x_dget2 ?_) | ((with_reducible refine' x_isD ?h ?q); (case h => walk_at "fx")) | ((with_reducible refine' x_dg ?h ?q); (case h => walk_at "fx")) | (with_reducible refine x_din ?_) | ((with_reducible refine' x_dinA ?h ?q); (case h => walk_at "fx")) | (with_reducible refine x_dput ?_) | (with_reducible refine x_makeK ?_)
  | (with_reducible refine iteT ?_) | (with_reducible refine iteF ?_) | (with_reducible refine ifNT' ?_) | (with_reducible refine ifNF' ?_))
local macro_rules | `(tactic| walk_at "go") => `(tactic| repeat walk_at "step")
section
variable {P : Program} {w : World} {K : PySem.W.Frag} {mg : Str → Option Value} {base : Heap}
def spLTent (K : PySem.W.Frag) : Sp := fun vs H Q _ => ∃ D : Dk, vs = [.ref D.d] ∧ DeckAt H D ∧ DGives K D H Q TentOk t3D
theorem perm3 {ns : List Int} {a b c : Int} (p : ns.Perm [a, b, c]) (s : ns.Pairwise (· ≤ ·)) : ∃ x y z, ns = [x, y, z] ∧ x ≤ y ∧ y ≤ z ∧ ∀ m, m = x ∨ m = y ∨ m = z → m = a ∨ m = b ∨ m = c := by
  have l := p.length_eq
  match ns, l with
  | [x, y, z], _ =>
    simp only [List.pairwise_cons] at s
    refine ⟨x, y, z, rfl, s.1 y (by simp), s.2.1 z (by simp), fun m hm => ?_⟩
    have := p.mem_iff (a := m)
    simp at this
    exact this.mp (by simpa using hm)
abbrev sc_law_tentN : List Str := ["_law_deck_here", "_law_kind", "_law_rows"]
theorem sc_law_tent : FnScope sc_law_tentN ["_law_deck_here"] (defScope s_law_tent) := ⟨rfl, rfl, rfl, by decide +kernel, rfl, by decide +kernel, by decide +kernel⟩
theorem k_law_tent (T : Txt K mg) : Kept P w K mg base CX0 2 "_law_tent" ["_law_deck_here"] [] (spLTent K) := by
  obtain ⟨fd, F⟩ := T.f_law_tent
  refine ⟨_, fd, [], T.g__law_tent, F.kp, F.bindsN (ps := ["_law_deck_here"]) (fun _ _ _ _ _ _ us hl => match us, hl with | [_], _ => rfl), .nil, ?_⟩
  refine ok0 F sc_law_tent (fun vs H Q E h => ?_) (fun cdv A outer s H vs Q E hr h => ?_)
  · obtain ⟨D, rfl, _⟩ := h
    rfl
  refine ⟨_, (pss_cons (ps_set (i := 1) sc_law_tent.nd rfl (.inl rfl) (pe_kc (k_law_draw T) (by decide) hr (by rfl) pass0 (pa_cons (pv 0) (pa_cons pe_int pa_nil))))
      (pss_cons (ps_if (pt_cmpR op_eq (pv 1) pe_int (nomark _)) (pss_one (ps_ret (pe_tup (pa_cons (pe_un un_neg (pe_kc (k_law_draw T) (by decide) hr (by rfl) pass0 (pa_cons (pv 0) (pa_cons pe_int pa_nil)))) (pa_cons pe_int (pa_cons (pe_kc (k_law_draw T) (by decide) hr (by rfl) pass0 (pa_cons (pv 0) (pa_cons pe_int pa_nil))) pa_nil)))))) pss_nil)
      (pss_cons (ps_set (i := 2) sc_law_tent.nd rfl (.inl rfl) (pe_lst (pa_cons (pe_kc (k_law_draw T) (by decide) hr (by rfl) pass0 (pa_cons (pv 0) (pa_cons pe_int pa_nil))) (pa_cons (pe_kc (k_law_draw T) (by decide) hr (by rfl) pass0 (pa_cons (pv 0) (pa_cons pe_int pa_nil))) (pa_cons (pe_kc (k_law_draw T) (by decide) hr (by rfl) pass0 (pa_cons (pv 0) (pa_cons pe_int pa_nil))) pa_nil)))))
      (pss_cons (ps_if (pt_cmpR op_eq (pv 1) pe_int (nomark _)) (pss_one (ps_set (i := 2) sc_law_tent.nd rfl (.inl rfl) (pe_lst (pa_cons (pe_op op_sub (pe_kc (k_law_draw T) (by decide) hr (by rfl) pass0 (pa_cons (pv 0) (pa_cons pe_int pa_nil))) pe_int) (pa_cons (pe_op op_sub (pe_kc (k_law_draw T) (by decide) hr (by rfl) pass0 (pa_cons (pv 0) (pa_cons pe_int pa_nil))) pe_int) (pa_cons (pe_op op_sub (pe_kc (k_law_draw T) (by decide) hr (by rfl) pass0 (pa_cons (pv 0) (pa_cons pe_int pa_nil))) pe_int) pa_nil)))))) pss_nil)
      (pss_cons (ps_set (i := 2) sc_law_tent.nd rfl (.inl rfl) (pe_callB cr_sorted (by rfl) (Txt.n_sorted T) (by decide +kernel) (pa_cons (pv 2) pa_nil)))
      (pss_cons (ps_if (pt_cmpR op_eq (pv 1) pe_int (nomark _)) (pss_one (ps_ret (pe_tup (pa_cons (pe_un un_neg (pe_ix ix_list (pv 2) pe_int (fun _ _ => rfl))) (pa_cons (pe_un un_neg (pe_ix ix_list (pv 2) pe_int (fun _ _ => rfl))) (pa_cons (pe_un un_neg (pe_ix ix_list (pv 2) pe_int (fun _ _ => rfl))) pa_nil)))))) pss_nil)
      (pss_cons (ps_if (pt_cmpR op_eq (pv 1) pe_int (nomark _)) (pss_one (ps_ret (pe_tup (pa_cons pe_int (pa_cons (pe_ix ix_list (pv 2) pe_int (fun _ _ => rfl)) (pa_cons (pe_ix ix_list (pv 2) pe_int (fun _ _ => rfl)) pa_nil)))))) pss_nil)
      (pss_one (ps_ret (pe_tup (pa_cons (pe_ix ix_list (pv 2) pe_int (fun _ _ => rfl)) (pa_cons (pe_ix ix_list (pv 2) pe_int (fun _ _ => rfl)) (pa_cons (pe_ix ix_list (pv 2) pe_int (fun _ _ => rfl)) pa_nil))))))))))))), ?_⟩
  obtain ⟨D, rfl, hd, q⟩ := h
  walk_at "go"
  refine ⟨D, 6, rfl, by decide, by decide, hd, fun kind H1 k0 k1 st1 hd1 => ?_⟩
  walk_at "go"
  refine ifD (fun c0 => ?_) (fun c0 => ?_)
  · walk_at "go"
    refine ⟨D, 65, rfl, by decide, by decide, hd1, fun a H2 a0 a1 st2 hd2 => ?_⟩
    walk_at "go"
    refine ⟨D, 65, rfl, by decide, by decide, hd2, fun b H3 b0 b1 st3 hd3 => ?_⟩
    walk_at "go"
    intro u H4 s4 n4 e4
    walk_at "go"
    have sA := (st1.trans st2).trans st3
    exact q (-a, 0, b) _ _ ⟨by show -64 ≤ -a; omega, by show -a ≤ 0; omega, b0, by show b ≤ 64; omega⟩ (sA.trans (Stp.of s4 sA.2.2)) (hd3.same s4) (t3_dp (p := (-a, 0, b)) (tup_nw (n := sA.dom _ n4) e4))
  · walk_at "go"
    refine ⟨D, 65, rfl, by decide, by decide, hd1, fun a H2 a0 a1 st2 hd2 => ?_⟩
    walk_at "go"
    refine ⟨D, 65, rfl, by decide, by decide, hd2, fun b H3 b0 b1 st3 hd3 => ?_⟩
    walk_at "go"
    refine ⟨D, 65, rfl, by decide, by decide, hd3, fun c H4 c0' c1 st4 hd4 => ?_⟩
    walk_at "go"
    intro t Hr sr nr er
    walk_at "go"
    have hR := ((st1.trans st2).trans st3).trans st4
    have hR := hR.trans (Stp.of sr hR.2.2)
    have hdR := hd4.same sr
    have hb : -64 ≤ a ∧ a ≤ 64 ∧ -64 ≤ b ∧ b ≤ 64 ∧ -64 ≤ c ∧ c ≤ 64 := by omega
    have hk : kind = 1 ∨ (0 ≤ a ∧ 0 ≤ b ∧ 0 ≤ c) := .inr ⟨a0, b0, c0'⟩
    refine ifB (fun ck => ?ca) (fun ck => ?cb)
    case' ca =>
      have k1 : kind = 1 := V.int.inj (of_decide_eq_true ck)
      walk_at "go"
      refine ⟨D, 129, rfl, by decide, by decide, hdR, fun a H5 a0 a1 st5 hd5 => ?_⟩
      walk_at "go"
      refine ⟨D, 129, rfl, by decide, by decide, hd5, fun b H6 b0 b1 st6 hd6 => ?_⟩
      walk_at "go"
      refine ⟨D, 129, rfl, by decide, by decide, hd6, fun c H7 c0' c1 st7 hd7 => ?_⟩
      walk_at "go"
      intro t Hr sr nr er
      have hR := ((hR.trans st5).trans st6).trans st7
      have hR := hR.trans (Stp.of sr hR.2.2)
      have hdR := hd7.same sr
      have hb : -64 ≤ a - 64 ∧ a - 64 ≤ 64 ∧ -64 ≤ b - 64 ∧ b - 64 ≤ 64 ∧ -64 ≤ c - 64 ∧ c - 64 ≤ 64 := by omega
      have hk : kind = 1 ∨ (0 ≤ a - 64 ∧ 0 ≤ b - 64 ∧ 0 ≤ c - 64) := .inl k1
      have er : Hr t = some (.lst [.int (a - 64), .int (b - 64), .int (c - 64)]) := er
      generalize a - 64 = a at *
      generalize b - 64 = b at *
      generalize c - 64 = c at *
    all_goals
      walk_at "go"
      refine ⟨t, [a, b, c], rfl, SqL.of er, by show 3 < 64; decide, fun ns p pm ps np => ?_⟩
      obtain ⟨x, y, z, rfl, xy, yz, hm⟩ := perm3 pm ps
      have hx := hm x (.inl rfl)
      have hy := hm y (.inr (.inl rfl))
      have hz := hm z (.inr (.inr rfl))
      obtain ⟨H8, eH8⟩ : ∃ H8, H8 = upd Hr p (.lst (([x, y, z] : List Int).map V.int)) := ⟨_, rfl⟩
      rw [← eH8]
      have s8 : Same Hr H8 := by rw [eH8]; exact same_upd np
      have e8 : SqL K H8 p [.int x, .int y, .int z] := SqL.of (by rw [eH8]; exact upd_same)
      have hR := hR.trans (Stp.of s8 hR.2.2)
      have hdR := hdR.same s8
      walk_at "go"
      refine ifD (fun c2 => ?_) (fun c2 => ?_)
      · have c2 : kind = 2 := V.int.inj c2
        walk_at "go"
        intro u H9 s9 n9 e9
        walk_at "go"
        exact q (-z, -y, -x) _ _ ⟨by show -64 ≤ -z; omega, by show -z ≤ -y; omega, by show -y ≤ -x; omega, by show -x ≤ 64; omega⟩ (hR.trans (Stp.of s9 hR.2.2)) (hdR.same s9) (t3_dp (p := (-z, -y, -x)) (tup_nw (n := hR.dom _ n9) e9))
      walk_at "go"
      refine ifD (fun c3 => ?_) (fun c3 => ?_)
      · have c3 : kind = 3 := V.int.inj c3
        walk_at "go"
        intro u H9 s9 n9 e9
        walk_at "go"
        exact q (0, z, z) _ _ ⟨by show (-64 : Int) ≤ 0; decide, by show 0 ≤ z; omega, by show z ≤ z; omega, by show z ≤ 64; omega⟩ (hR.trans (Stp.of s9 hR.2.2)) (hdR.same s9) (t3_dp (p := (0, z, z)) (tup_nw (n := hR.dom _ n9) e9))
      · walk_at "go"
        intro u H9 s9 n9 e9
        walk_at "go"
        exact q (x, y, z) _ _ ⟨by show -64 ≤ x; omega, xy, yz, by show z ≤ 64; omega⟩ (hR.trans (Stp.of s9 hR.2.2)) (hdR.same s9) (t3_dp (p := (x, y, z)) (tup_nw (n := hR.dom _ n9) e9))
/-! ### _law_font_tent -/
structure FTent (t : Ax) : Prop where
  ok : TentOk t
  sp : t.1 < 0 → 0 < t.2.2 → t.2.1 = 0
def spFTent (K : PySem.W.Frag) : Sp := fun vs H Q _ => ∃ D : Dk, vs = [.ref D.d] ∧ DeckAt H D ∧ DGives K D H Q FTent t3D
abbrev sc_law_font_tentN : List Str := ["_law_deck_here", "_law_tent_here"]
theorem sc_law_font_tent : FnScope sc_law_font_tentN ["_law_deck_here"] (defScope s_law_font_tent) := ⟨rfl, rfl, rfl, by decide +kernel, rfl, by decide +kernel, by decide +kernel⟩
theorem k_law_font_tent (T : Txt K mg) : Kept P w K mg base CX0 3 "_law_font_tent" ["_law_deck_here"] [] (spFTent K) := by
  obtain ⟨fd, F⟩ := T.f_law_font_tent
  refine ⟨_, fd, [], T.g__law_font_tent, F.kp, F.bindsN (ps := ["_law_deck_here"]) (fun _ _ _ _ _ _ us hl => match us, hl with | [_], _ => rfl), .nil, ?_⟩
  refine ok0 F sc_law_font_tent (fun vs H Q E h => ?_) (fun cdv A outer s H vs Q E hr h => ?_)
  · obtain ⟨D, rfl, _⟩ := h
    rfl
  refine ⟨_, (pss_cons (ps_set (i := 1) sc_law_font_tent.nd rfl (.inl rfl) (pe_kc (k_law_tent T) (by decide) hr (by rfl) pass0 (pa_cons (pv 0) pa_nil)))
      (pss_cons (ps_if (PW.pt (pw_and (pt_cmpR op_lt (pe_ix ix_tup (pv 1) pe_int (fun _ _ => rfl)) pe_int (nomark _)) (pw_and1 (pt_cmpR op_gt (pe_ix ix_tup (pv 1) pe_int (fun _ _ => rfl)) pe_int (nomark _))))) (pss_one (ps_ret (pe_tup (pa_cons (pe_ix ix_tup (pv 1) pe_int (fun _ _ => rfl)) (pa_cons pe_int (pa_cons (pe_ix ix_tup (pv 1) pe_int (fun _ _ => rfl)) pa_nil)))))) pss_nil)
      (pss_one (ps_ret (pv 1))))), ?_⟩
  obtain ⟨D, rfl, hd, q⟩ := h
  walk_at "go"
  refine ⟨D, rfl, hd, fun t v H1 ok st1 hd1 dt => ?_⟩
  obtain ⟨b1, b2, b3, b4⟩ := id ok
  obtain ⟨p, rfl, ht⟩ := dp_t3 (nw_sub.dp dt)
  walk_at "go"
  refine ifD (fun c1 => ?_) (fun c1 => ?_)
  · walk_at "go"
    refine ifD (fun c2 => ?_) (fun c2 => ?_)
    · walk_at "go"
      intro u H9 s9 n9 e9
      walk_at "go"
      exact q (t.1, 0, t.2.2) _ _ ⟨⟨b1, by show t.1 ≤ 0; omega, by show 0 ≤ t.2.2; omega, b4⟩, fun _ _ => rfl⟩ (st1.trans (Stp.of s9 st1.2.2)) (hd1.same s9) (t3_dp (p := (t.1, 0, t.2.2)) (tup_nw (n := st1.dom _ n9) e9))
    · walk_at "go"
      exact q t _ _ ⟨ok, fun _ z => absurd z c2⟩ st1 hd1 dt
  · walk_at "go"
    exact q t _ _ ⟨ok, fun z => absurd z c1⟩ st1 hd1 dt
/-! ### _law_place -/
def spPlace (K : PySem.W.Frag) : Sp := fun vs H Q _ => ∃ (D : Dk) (va : V) (as : List Ax), vs = [.ref D.d, va] ∧ DeckAt H D ∧ Dp K (era D.d H) va (.list (as.map t3D)) ∧ axesOk as ∧ DGives K D H Q (InAx as) fun pl => .list (pl.map PyData.int)
abbrev sc_law_placeN : List Str := ["_law_deck_here", "_law_axes_here", "_law_place_here", "_law_axis", "_law_kind", "_law_number"]
theorem sc_law_place : FnScope sc_law_placeN ["_law_deck_here", "_law_axes_here"] (defScope s_law_place) := ⟨rfl, rfl, rfl, by decide +kernel, rfl, by decide +kernel, by decide +kernel⟩
theorem k_law_place (T : Txt K mg) : Kept P w K mg base CX0 2 "_law_place" ["_law_deck_here", "_law_axes_here"] [] (spPlace K) := by
  obtain ⟨fd, F⟩ := T.f_law_place
  refine ⟨_, fd, [], T.g__law_place, F.kp, F.bindsN (ps := ["_law_deck_here", "_law_axes_here"]) (fun _ _ _ _ _ _ us hl => match us, hl with | [_, _], _ => rfl), .nil, ?_⟩
  refine ok0 F sc_law_place (fun vs H Q E h => ?_) (fun cdv A outer s H vs Q E hr h => ?_)
  · obtain ⟨D, va, as, rfl, _⟩ := h
    rfl
  refine ⟨_, (pss_cons (ps_set (i := 2) sc_law_place.nd rfl (.inl rfl) (pe_lst pa_nil))
      (pss_cons (ps_for PassesOwn.never rfl (pi_list (pv 1)) (pg_name (i := 3) sc_law_place.nd rfl (.inl rfl)) (pss_cons (ps_set (i := 4) sc_law_place.nd rfl (.inl rfl) (pe_kc (k_law_draw T) (by decide) hr (by rfl) pass0 (pa_cons (pv 0) (pa_cons pe_int pa_nil))))
      (pss_cons (ps_set (i := 5) sc_law_place.nd rfl (.inl rfl) (pe_op op_add (pe_ix ix_tup (pv 3) pe_int (fun _ _ => rfl)) (pe_kc (k_law_draw T) (by decide) hr (by rfl) pass0 (pa_cons (pv 0) (pa_cons (pe_op op_add (pe_op op_sub (pe_ix ix_tup (pv 3) pe_int (fun _ _ => rfl)) (pe_ix ix_tup (pv 3) pe_int (fun _ _ => rfl))) pe_int) pa_nil)))))
      (pss_cons (ps_if (pt_cmpR op_lt (pv 4) pe_int (nomark _)) (pss_one (ps_set (i := 5) sc_law_place.nd rfl (.inl rfl) (pe_ix ix_tup (pv 3) (pv 4) (fun _ _ => rfl)))) pss_nil)
      (pss_one (ps_expr (pe_bm PySem.F.plainAttrs_list PySem.F.slot_list_append PySem.F.type_list_append mt_append (pv 2) (pa_cons (pv 5) pa_nil))))))))
      (pss_one (ps_ret (pv 2))))), ?_⟩
  obtain ⟨D, va, as, rfl, hd, da, ok, q⟩ := h
  obtain ⟨pa, axs, rfl, ha, hax⟩ := dp_lst da
  have la := dps_mlen hax
  obtain ⟨a1, a3, ao⟩ := ok
  walk_at "go"
  intro p H1 s1 n1 e1
  have ha1 : SqL K H1 pa axs := s1.seq (era_sub.seq ha)
  have st1 := Stp.of s1 hd.ne
  walk_at "go"
  refine for_at axs.length (fun i σ' H' => Stp D.d H H' ∧ DeckAt H' D ∧ ∃ (o : List Int) (y3 y4 y5 : Option V), σ' = [some (.ref D.d), some (.ref pa), some (.ref p), y3, y4, y5] ∧ Lst K H p H' (o.map PyData.int) ∧ o.length = i ∧ ∀ (j : Nat) (a : Ax) (n : Int), as[j]? = some a → o[j]? = some n → a.1 ≤ n ∧ n ≤ a.2.2)
    ⟨st1, hd.same s1, [], _, _, _, rfl, Lst.start n1 e1, rfl, fun j a n _ e => by simp at e⟩ (fun i σ' H' lt F => ?_) (fun σ' H' F => ?_)
  · obtain ⟨st, hd', o, y3, y4, y5, rfl, L, lo, ho⟩ := F
    have W := walkS_list (d := D.d) ha
    refine ⟨W.go _ _ st lt, fun x H3 yy => ?_⟩
    obtain ⟨rfl, e⟩ := W.yld _ _ _ _ st lt yy
    obtain ⟨ax, ma, dax⟩ := dps_map hax e
    obtain ⟨b1, b2, b3, b4⟩ := ao ax (List.mem_of_getElem? ma)
    walk_at "go"
    refine ⟨D, 5, rfl, by decide, by decide, hd', fun kind H4 k0 k1 st4 hd4 => ?_⟩
    obtain ⟨t, rfl, ht0⟩ := dp_t3 ((st.trans st4).era.dp dax)
    have ht := seqT era_sub ht0
    walk_at "go"
    refine ⟨D, _, rfl, by omega, by omega, hd4, fun r H5 r0 r1 st5 hd5 => ?_⟩
    have ht := seqT era_sub (seqT st5.era ht0)
    have st := (st.trans st4).trans st5
    have L := (L.keepS st4 hd.ne).keepS st5 hd.ne
    walk_at "go"
    have fin : ∀ n : Int, ax.1 ≤ n → n ≤ ax.2.2 → ∀ (j : Nat) (a : Ax) (m : Int), as[j]? = some a → (o ++ [n])[j]? = some m → a.1 ≤ m ∧ m ≤ a.2.2 := fun n l1 l2 j a m ea em => by
      by_cases hj : j < o.length
      · rw [List.getElem?_append_left hj] at em
        exact ho j a m ea em
      · have : j = o.length := by
          have := (List.getElem?_eq_some_iff.mp em).1
          rw [List.length_append] at this
          simp at this
          omega
        subst this
        rw [List.getElem?_append_right (by omega)] at em
        simp at em
        rw [lo, ma] at ea
        cases ea
        subst em
        exact ⟨l1, l2⟩
    refine ifB (fun ck => ?ca) (fun ck => ?cb)
    case' ca =>
      have ck : kind < 3 := of_decide_eq_true ck
      obtain ⟨n0, en, hn0⟩ := three_ix (a := ax.1) (b := ax.2.1) (c := ax.2.2) (C := fun x => ax.1 ≤ x ∧ x ≤ ax.2.2) k0 ck ⟨by omega, by omega⟩ ⟨by omega, by omega⟩ ⟨by omega, by omega⟩
      walk_at "go"
      refine x_ixT ht en ?_
    case' cb =>
      let n0 : Int := ax.1 + r
      have hn0 : ax.1 ≤ n0 ∧ n0 ≤ ax.2.2 := by
        show ax.1 ≤ ax.1 + r ∧ ax.1 + r ≤ ax.2.2
        omega
    all_goals
      walk_at "go"
      refine ⟨L.ty, ?_⟩
      walk_at "go"
      obtain ⟨acc2, ea, lac, L3⟩ := L.push (.int n0) (by rw [List.length_map]; omega)
      refine x_app ea lac ?_
      walk_at "go"
      exact ⟨st.app n1, hd5.app hd n1, o ++ [n0], _, _, _, rfl, by rw [List.map_append]; exact L3, by rw [List.length_append, lo]; rfl, fin n0 hn0.1 hn0.2⟩
  · obtain ⟨st, hd', o, y3, y4, y5, rfl, L, lo, ho⟩ := F
    refine ⟨(walkS_list (d := D.d) ha).stop _ st, ?_⟩
    walk_at "go"
    exact q o _ _ ⟨by omega, ho⟩ st hd' L.done
/-! ### _law_deltas -/
structure DlOk (c r : Int) (dl : List Dl) : Prop where
  len : dl.length ≤ 5
  all : ∀ d ∈ dl, 0 ≤ d.1 ∧ d.1 < r ∧ -1 ≤ d.2.1 ∧ d.2.1 < c ∧ near d.2.2.1 ∧ near d.2.2.2
def spDeltas (K : PySem.W.Frag) : Sp := fun vs H Q _ => ∃ (D : Dk) (c r : Int), vs = [.ref D.d, .int c, .int r] ∧ DeckAt H D ∧ 0 ≤ c ∧ c ≤ 1000 ∧ 1 ≤ r ∧ r ≤ 1000 ∧ DGives K D H Q (DlOk c r) fun dl => .list (dl.map t4D)
abbrev sc_law_deltasN : List Str := ["_law_deck_here", "_law_count", "_law_regions", "_law_deltas_here", "_law_k", "_law_far", "_law_x"]
theorem sc_law_deltas : FnScope sc_law_deltasN ["_law_deck_here", "_law_count", "_law_regions"] (defScope s_law_deltas) := ⟨rfl, rfl, rfl, by decide +kernel, rfl, by decide +kernel, by decide +kernel⟩
theorem k_law_deltas (T : Txt K mg) : Kept P w K mg base CX0 2 "_law_deltas" ["_law_deck_here", "_law_count", "_law_regions"] [] (spDeltas K) := by
  obtain ⟨fd, F⟩ := T.f_law_deltas
  refine ⟨_, fd, [], T.g__law_deltas, F.kp, F.bindsN (ps := ["_law_deck_here", "_law_count", "_law_regions"]) (fun _ _ _ _ _ _ us hl => match us, hl with | [_, _, _], _ => rfl), .nil, ?_⟩
  refine ok0 F sc_law_deltas (fun vs H Q E h => ?_) (fun cdv A outer s H vs Q E hr h => ?_)
  · obtain ⟨D, c, r, rfl, _⟩ := h
    rfl
  refine ⟨_, (pss_cons (ps_set (i := 3) sc_law_deltas.nd rfl (.inl rfl) (pe_lst pa_nil))
      (pss_cons (ps_for PassesOwn.never rfl (pi_range1 (by rfl) (Txt.n_range T) (pa_cons (pe_kc (k_law_draw T) (by decide) hr (by rfl) pass0 (pa_cons (pv 0) (pa_cons pe_int pa_nil))) pa_nil)) (pg_name (i := 4) sc_law_deltas.nd rfl (.inl rfl)) (pss_cons (ps_set (i := 5) sc_law_deltas.nd rfl (.inl rfl) (pe_ix ix_list (pe_lst (pa_cons pe_int (pa_cons pe_int (pa_cons pe_int pa_nil)))) (pe_kc (k_law_draw T) (by decide) hr (by rfl) pass0 (pa_cons (pv 0) (pa_cons pe_int pa_nil))) (fun _ _ => rfl)))
      (pss_cons (ps_set (i := 6) sc_law_deltas.nd rfl (.inl rfl) (pe_op op_sub (pe_kc (k_law_draw T) (by decide) hr (by rfl) pass0 (pa_cons (pv 0) (pa_cons (pe_op op_add (pe_op op_mul pe_int (pv 5)) pe_int) pa_nil))) (pv 5)))
      (pss_one (ps_expr (pe_bm PySem.F.plainAttrs_list PySem.F.slot_list_append PySem.F.type_list_append mt_append (pv 3) (pa_cons (pe_tup (pa_cons (pe_kc (k_law_draw T) (by decide) hr (by rfl) pass0 (pa_cons (pv 0) (pa_cons (pv 2) pa_nil))) (pa_cons (pe_op op_sub (pe_kc (k_law_draw T) (by decide) hr (by rfl) pass0 (pa_cons (pv 0) (pa_cons (pe_op op_add (pv 1) pe_int) pa_nil))) pe_int) (pa_cons (pv 6) (pa_cons (pe_op op_sub (pe_kc (k_law_draw T) (by decide) hr (by rfl) pass0 (pa_cons (pv 0) (pa_cons (pe_op op_add (pe_op op_mul pe_int (pv 5)) pe_int) pa_nil))) (pv 5)) pa_nil))))) pa_nil)))))))
      (pss_one (ps_ret (pv 3))))), ?_⟩
  obtain ⟨D, c, r, rfl, hd, c0, c1, r0, r1, q⟩ := h
  walk_at "go"
  intro p H1 s1 n1 e1
  walk_at "go"
  have st1 := Stp.of s1 hd.ne
  refine ⟨D, 6, rfl, by decide, by decide, hd.same s1, fun n H2 n0 n6 st2 hd2 => ?_⟩
  walk_at "go"
  refine ⟨_, rfl, by omega, by omega, ?_⟩
  refine for_at n.toNat (fun i σ' H' => Stp D.d H H' ∧ DeckAt H' D ∧ ∃ (o : List Dl) (y4 y5 y6 : Option V), σ' = [some (.ref D.d), some (.int c), some (.int r), some (.ref p), y4, y5, y6] ∧ Lst K H p H' (o.map t4D) ∧ o.length = i ∧ ∀ d ∈ o, 0 ≤ d.1 ∧ d.1 < r ∧ -1 ≤ d.2.1 ∧ d.2.1 < c ∧ near d.2.2.1 ∧ near d.2.2.2)
    ⟨st1.trans st2, hd2, [], _, _, _, rfl, (Lst.start n1 e1).keepS st2 hd.ne, rfl, fun c h => (by cases h)⟩ (fun i σ' H' lt F => ?_) (fun σ' H' F => ?_)
  · obtain ⟨st, hd', o, y4, y5, y6, rfl, L, lo, ao⟩ := F
    refine ⟨lt, fun x H3 yy => ?_⟩
    obtain ⟨rfl, rfl⟩ := yy
    walk_at "go"
    intro t H3 s3 n3 e3
    have td : t ≠ D.d := fun z => hd'.ne (by rw [← z]; exact n3)
    have hd3 := hd'.same s3
    walk_at "go"
    refine ⟨D, 3, rfl, by decide, by decide, hd3, fun k H4 k0 k1 st4 hd4 => ?_⟩
    obtain ⟨fr, efr, l0, l1⟩ := three_ix (a := 12) (b := 300) (c := 16384) (C := fun x => 0 ≤ x ∧ x ≤ 16384) k0 k1 (by decide) (by decide) (by decide)
    refine x_ixL (SqL.of (st4.1 _ _ td e3)) efr ?_
    walk_at "go"
    refine ⟨_, _, rfl, rfl, .inl ⟨by decide, by decide⟩, ?_⟩
    walk_at "go"
    refine ⟨D, _, rfl, by omega, by omega, hd4, fun x H5 x0 x1 st5 hd5 => ?_⟩
    have L := ((L.keep s3).keepS st4 hd.ne).keepS st5 hd.ne
    walk_at "go"
    refine ⟨L.ty, ?_⟩
    walk_at "go"
    refine ⟨D, _, rfl, by omega, by omega, hd5, fun a H6 a0 a1 st6 hd6 => ?_⟩
    walk_at "go"
    refine ⟨D, _, rfl, by omega, by omega, hd6, fun b H7 b0 b1 st7 hd7 => ?_⟩
    walk_at "go"
    refine ⟨_, _, rfl, rfl, .inl ⟨by decide, by decide⟩, ?_⟩
    walk_at "go"
    refine ⟨D, _, rfl, by omega, by omega, hd7, fun y H8 y0 y1 st8 hd8 => ?_⟩
    walk_at "go"
    intro u H9 s9 n9 e9
    have L := ((L.keepS st6 hd.ne).keepS st7 hd.ne).keepS st8 hd.ne
    have hp := L.ne
    have L := L.keep s9
    have stA := (((((st.trans (Stp.of s3 hd'.ne)).trans st4).trans st5).trans st6).trans st7).trans st8
    walk_at "go"
    obtain ⟨acc2, ea, lac, L3⟩ := L.new stA.dom hp (t4_dp (p := (a, b - 1, x - fr, y - fr)) (tup_nw (n := n9) e9)) (by rw [List.length_map]; omega)
    refine x_app ea lac ?_
    walk_at "go"
    refine ⟨(stA.trans (Stp.of s9 stA.2.2)).app n1, (hd8.same s9).app hd n1, o ++ [_], _, _, _, rfl, by rw [List.map_append]; exact L3, by rw [List.length_append, lo]; rfl, fun z hz => ?_⟩
    rcases List.mem_append.mp hz with hz | hz
    · exact ao z hz
    · rw [List.mem_singleton.mp hz]
      refine ⟨a0, a1, ?_, ?_, ?_, ?_⟩
      · show -1 ≤ b - 1
        omega
      · show b - 1 < c
        omega
      · show near (x - fr)
        omega
      · show near (y - fr)
        omega
  · obtain ⟨st, hd', o, y4, y5, y6, rfl, L, lo, ao⟩ := F
    refine ⟨Nat.le_refl _, ?_⟩
    walk_at "go"
    exact q o _ _ ⟨by omega, ao⟩ st hd' L.done
end
end Fl
set_option Elab.async false
set_option linter.all false
set_option maxRecDepth 100000
set_option maxHeartbeats 4000000
/-! What is made; fonts of it; instances. -/
namespace Fl
open PySem PySem.Spec PyProof.Rows L2
local macro_rules | `(tactic| walk_at "fx") => `(tactic| first | assumption | solve_by_elim [seqT, Same.trans, Same.seq])
local macro_rules | `(tactic| walk_at "cl") => `(tactic| first | assumption | exact Txt.c_Glyph (by assumption) | exact Txt.c_Font (by assumption) | exact Txt.c_Moves (by assumption))
local macro_rules | `(tactic| walk_at "na") => `(tactic| first | assumption | exact Txt.a_Glyph_advance (by assumption) | exact Txt.a_Glyph_outline (by assumption) | exact Txt.a_Glyph_parts (by assumption) | exact Txt.a_Glyph_anchors (by assumption) | exact Txt.a_Glyph_mark (by assumption) | exact Txt.a_Glyph_deltas (by assumption) | exact Txt.a_Glyph_hint (by assumption) | exact Txt.a_Font_unit (by assumption) | exact Txt.a_Font_glyphs (by assumption) | exact Txt.a_Font_chars (by assumption) | exact Txt.a_Font_lookups (by assumption) | exact Txt.a_Font_features (by assumption) | exact Txt.a_Font_axes (by assumption) | exact Txt.a_Font_regions (by assumption) | exact Txt.a_Font_functions (by assumption) | exact Txt.a_Font_presets (by assumption) | exact Txt.a_Moves_sums (by assumption))
local macro_rules | `(tactic| walk_at "step") => `(tactic| first
  | (with_reducible refine x_c ?_)
  | ((with_reducible show tVar _ _ _ _); refine ⟨_, rfl, ?_⟩)
  | (with_reducible refine x_op ?_) | (with_reducible refine x_seq ?_) | (with_reducible refine x_nx ?_) | (with_reducible refine x_asg ?_) | (with_reducible refine x_name ?_)
  | ((with_reducible show rI0 _ _ _ _ _); refine ⟨_, _, rfl, rfl, ?_⟩)
  | (with_reducible refine x_ret ?_) | (with_reducible refine x_rt ?_) | (with_reducible refine x_ifS ?_) | (with_reducible refine x_test ?_) | (with_reducible refine x_bl ?_)
  | (with_reducible refine x_cons ?_) | (with_reducible refine x_nil ?_) | (with_reducible refine x_call ?_) | (with_reducible refine x_CB ?_)
  | ((with_reducible refine' x_ixT ?h ?e ?q); (case h => walk_at "fx"); (case e => rfl))
  | ((with_reducible refine' x_ixL ?h ?e ?q); (case h => walk_at "fx"); (case e => rfl))
  | (with_reducible refine x_fld ?_)
  | ((with_reducible refine' x_at ?h ?c ?n ?l ?q); (case h => walk_at "fx"); (case c => walk_at "cl"); (case n => walk_at "na"); (case l => rfl))
  | (with_reducible refine x_un ?_) | ((with_reducible show rU _ _ _ _); refine ⟨_, rfl, ?_⟩)
  | (with_reducible refine x_not ?_) | (with_reducible refine x_and ?_) | (with_reducible refine x_or ?_) | (with_reducible refine x_tB ?_) | (with_reducible refine x_andV ?_) | (with_reducible refine x_notV ?_) | (with_reducible refine x_chain ?_) | (with_reducible refine x_chn ?_) | (with_reducible refine x_link ?_) | (with_reducible refine x_last ?_)
  | ((with_reducible refine x_eq ?s ?_); (case s => rfl)) | ((with_reducible refine x_ne ?s ?_); (case s => rfl))
  | (with_reducible refine x_tup ?_) | (with_reducible refine x_lst ?_) | (with_reducible refine x_disp (Nat.le_of_ble_eq_true rfl) ?_)
  | (with_reducible refine x_retN ?_) | (with_reducible refine x_drop ?_) | (with_reducible refine x_next ?_) | (with_reducible refine x_bk ?_) | (with_reducible refine x_ct ?_) | (with_reducible refine x_sfld ?_)
  | ((with_reducible refine' x_gtup ?h ?e ?q); (case h => walk_at "fx"); (case e => rfl)) | ((with_reducible refine' x_gunl ?h ?e ?q); (case h => walk_at "fx"); (case e => rfl))
  | (with_reducible refine x_gcons ?_) | (with_reducible refine x_gnil ?_) | (with_reducible refine x_gsub ?_)
  | (with_reducible refine x_for ?_) | ((with_reducible refine' x_lcSeq ?hv ?h ?q); (case hv => rfl); (case h => assumption)) | (with_reducible refine x_lc ?_) | (with_reducible refine x_yes ?_) | (with_reducible refine x_iList ?_) | (with_reducible refine x_iTup ?_) | (with_reducible refine x_iSeq ?_) | (with_reducible refine x_iZip ?_) | (with_reducible refine x_iEnum ?_) | (with_reducible refine x_iRng1 ?_)
  | ((with_reducible refine' x_itL ?h ?q); (case h => walk_at "fx")) | ((with_reducible refine' x_itT ?h ?q); (case h => walk_at "fx")) | ((with_reducible refine' x_itSL ?h ?q); (case h => walk_at "fx")) | ((with_reducible refine' x_itST ?h ?q); (case h => walk_at "fx"))
  | ((with_reducible refine' x_itZ ?h1 ?h2 ?q); (case h1 => walk_at "fx"); (case h2 => walk_at "fx")) | ((with_reducible refine' x_itE ?h ?q); (case h => walk_at "fx"))
  | ((with_reducible refine' x_lenL ?h ?q); (case h => walk_at "fx")) | ((with_reducible refine' x_lenT ?h ?q); (case h => walk_at "fx"))
  | ((with_reducible refine' x_lofB ?h ?q); (case h => assumption)) | ((with_reducible refine' x_lofL ?h ?q); (case h => walk_at "fx")) | ((with_reducible refine' x_lofT ?h ?q); (case h => walk_at "fx"))
  | ((with_reducible refine' x_augV ?hv ?h); (case hv => rfl)) | (with_reducible refine x_ipI ?_) | (with_reducible refine x_meth ?_) | ((with_reducible refine' x_mt ?h ?l ?q); (case h => walk_at "fx"); (case l => rfl)) | (with_reducible refine x_js ?_) | (with_reducible refine x_js0 ?_) | (with_reducible refine x_fmtI ?_) | (with_reducible refine x_make ?_) | (with_reducible refine x_bm ?_) | (with_reducible refine x_dget2 ?_) | ((with_reducible refine' x_isD ?h ?q); (case h => walk_at "fx")) | ((with_reducible refine' x_dg ?h ?q); (case h => walk_at "fx")) | (with_reducible refine x_din ?_) | ((with_reducible refine' x_dinA ?h ?q); (case h => walk_at "fx")) | (with_reducible refine x_dput ?_) | (with_reducible refine x_makeK ?_)
  | (with_reducible refine iteT ?_) | (with_reducible refine iteF ?_) | (with_reducible refine ifNT' ?_) | (with_reducible refine ifNF' ?_))
local macro_rules | `(tactic| walk_at "go") => `(tactic| repeat walk_at "step")
section
variable {P : Program} {w : World} {K : PySem.W.Frag} {mg : Str → Option Value} {base : Heap}
def rowD (g : Gd) : PyData := .list [.int g.adv, outD g.out, .list (g.dl.map t4D)]
/-- what was made: the data in N stand apart from the regions' lists rs -/
def MadeAt (K : PySem.W.Frag) (D : Dk) (N H : Hp) (v : V) (as : List Ax) (rs : List Addr) (regs : List (List Ax)) (rows : List Gd) : Prop := ∃ (m rg : Addr) (ax rw : V), v = .ref m ∧ N m = some (.lst [ax, .ref rg, rw]) ∧ N rg = some (.lst (rs.map V.ref)) ∧
  Dp K N ax (.list (as.map t3D)) ∧ Dp K N rw (.list (rows.map rowD)) ∧ rs.Nodup ∧ (∀ r ∈ rs, N r = none ∧ r ≠ D.d ∧ r ≠ D.sc) ∧ N D.d = none ∧ Same N H ∧ Paired (RegAt K H) rs regs
structure MadeOk (as : List Ax) (regs : List (List Ax)) (rows : List Gd) : Prop where
  ax : axesOk as
  r1 : 1 ≤ regs.length
  r4 : regs.length ≤ 4
  rg : ∀ r ∈ regs, r.length = as.length ∧ ∀ t ∈ r, FTent t
  g1 : 1 ≤ rows.length
  g3 : rows.length ≤ 3
  gs : ∀ g ∈ rows, GOk regs.length g
def spStyled (K : PySem.W.Frag) : Sp := fun vs H Q _ => ∃ D : Dk, vs = [.ref D.d, .int 1] ∧ DeckAt H D ∧ ∀ v H' N as rs regs rows, Stp D.d H H' → DeckAt H' D → MadeAt K D N H' v as rs regs rows → MadeOk as regs rows → Q v H'
def era2 (rs : List Addr) (H : Hp) : Hp := fun b => if b ∈ rs then none else H b
theorem era2_in {rs : List Addr} {H : Hp} {b : Addr} (h : b ∈ rs) : era2 rs H b = none := if_pos h
theorem era2_out {rs : List Addr} {H : Hp} {b : Addr} (h : ¬ b ∈ rs) : era2 rs H b = H b := if_neg h
theorem points_nn (o : Outl) : 0 ≤ points o := by
  unfold points
  induction o with
  | nil => exact Int.le_refl _
  | cons c o ih =>
    rw [List.map_cons, List.sum_cons]
    omega
abbrev sc_law_styledN : List Str := ["_law_deck_here", "_law_least", "_law_axes_here", "_law_regions", "_law_rows", "_law_k", "_law_outline_here", "_law_count", "_law_axis", "_law_contour"]
theorem sc_law_styled : FnScope sc_law_styledN ["_law_deck_here", "_law_least"] (defScope s_law_styled) := ⟨rfl, rfl, rfl, by decide +kernel, rfl, by decide +kernel, by decide +kernel⟩
theorem k_law_styled (T : Txt K mg) : Kept P w K mg base CX0 4 "_law_styled" ["_law_deck_here", "_law_least"] [] (spStyled K) := by
  obtain ⟨fd, F⟩ := T.f_law_styled
  refine ⟨_, fd, [], T.g__law_styled, F.kp, F.bindsN (ps := ["_law_deck_here", "_law_least"]) (fun _ _ _ _ _ _ us hl => match us, hl with | [_, _], _ => rfl), .nil, ?_⟩
  refine ok0 F sc_law_styled (fun vs H Q E h => ?_) (fun cdv A outer s H vs Q E hr h => ?_)
  · obtain ⟨D, rfl, _⟩ := h
    rfl
  refine ⟨_, (pss_cons (ps_set (i := 2) sc_law_styled.nd rfl (.inr rfl) (pe_kc (k_law_axes T) (by decide) hr (by rfl) pass0 (pa_cons (pv 0) (pa_cons (pv 1) pa_nil))))
      (pss_cons (ps_setLc (i := 3) (own := [("_law_k", 5)]) (tt := tYes) rfl sc_law_styled.nd rfl rfl (sw_true rfl rfl rfl (by decide +kernel)) (pi_range1 (by rfl) (Txt.n_range T) (pa_cons (pe_op op_add pe_int (pe_kc (k_law_draw T) (by decide) hr (by rfl) pass0 (pa_cons (pv 0) (pa_cons pe_int pa_nil)))) pa_nil)) (blkOk_by (N := sc_law_styledN) (sc := (defScope s_law_styled)) (by decide +kernel)) (fun _ _ _ _ _ => (pg_name (i := 5) sc_law_styled.nd rfl (.inl rfl))) (fun _ _ _ _ _ => pts_nil) (fun _ _ _ _ _ => (pe_lc (own := [("_law_axis", 8)]) (tt := tYes) rfl sc_law_styled.nd (itlK K rfl (pv 2)) (blkOk_by (N := sc_law_styledN) (sc := (relS _ (defScope s_law_styled))) (by decide +kernel)) (fun _ _ _ _ _ => (pg_name (i := 8) sc_law_styled.nd rfl (.inl rfl))) (fun _ _ _ _ _ => pts_nil) (fun _ _ _ _ _ => (pe_kc (k_law_font_tent T) (by decide) hr (by rfl) pass0 (pa_cons (pv 0) pa_nil))))))
      (pss_cons (ps_set (i := 4) sc_law_styled.nd rfl (.inl rfl) (pe_lst pa_nil))
      (pss_cons (ps_for PassesOwn.never rfl (pi_range1 (by rfl) (Txt.n_range T) (pa_cons (pe_op op_add pe_int (pe_kc (k_law_draw T) (by decide) hr (by rfl) pass0 (pa_cons (pv 0) (pa_cons pe_int pa_nil)))) pa_nil)) (pg_name (i := 5) sc_law_styled.nd rfl (.inl rfl)) (pss_cons (ps_set (i := 6) sc_law_styled.nd rfl (.inl rfl) (pe_kc (k_law_outline T) (by decide) hr (by rfl) pass0 (pa_cons (pv 0) (pa_cons pe_int (pa_cons pe_int pa_nil)))))
      (pss_cons (ps_set (i := 7) sc_law_styled.nd rfl (.inl rfl) (pe_callB (cr_sum rfl) (by rfl) (Txt.n_sum T) (by decide +kernel) (pa_cons (pe_lc (own := [("_law_contour", 9)]) (tt := tYes) rfl sc_law_styled.nd (pi_list (pv 6)) (blkOk_by (N := sc_law_styledN) (sc := (defScope s_law_styled)) (by decide +kernel)) (fun _ _ _ _ _ => (pg_name (i := 9) sc_law_styled.nd rfl (.inl rfl))) (fun _ _ _ _ _ => pts_nil) (fun _ _ _ _ _ => (pe_callB (lenK K rfl) (by rfl) (Txt.n_len T) PySem.boot_len (pa_cons (pv 9) pa_nil)))) pa_nil)))
      (pss_one (ps_expr (pe_bm PySem.F.plainAttrs_list PySem.F.slot_list_append PySem.F.type_list_append mt_append (pv 4) (pa_cons (pe_lst (pa_cons (pe_kc (k_law_draw T) (by decide) hr (by rfl) pass0 (pa_cons (pv 0) (pa_cons pe_int pa_nil))) (pa_cons (pv 6) (pa_cons (pe_kc (k_law_deltas T) (by decide) hr (by rfl) pass0 (pa_cons (pv 0) (pa_cons (pv 7) (pa_cons (pe_callB (lenK K rfl) (by rfl) (Txt.n_len T) PySem.boot_len (pa_cons (pv 3) pa_nil)) pa_nil)))) pa_nil)))) pa_nil)))))))
      (pss_one (ps_ret (pe_lst (pa_cons (pv 2) (pa_cons (pv 3) (pa_cons (pv 4) pa_nil)))))))))), ?_⟩
  obtain ⟨D, rfl, hd, q⟩ := h
  walk_at "go"
  refine ⟨D, rfl, hd, fun as va H1 aok st1 hd1 da => ?_⟩
  have aok' := aok
  obtain ⟨a1, a3, ao⟩ := aok'
  have da1 : Dp K (era D.d H1) va (.list (as.map t3D)) := (nw_deck hd.ne).dp da
  obtain ⟨pa, axs, rfl, hpa, hax⟩ := dp_lst da1
  have la := dps_mlen hax
  walk_at "go"
  refine ⟨D, 4, rfl, by decide, by decide, hd1, fun r H2 r0 r1 st2 hd2 => ?_⟩
  have hpa2 : SqL K (era D.d H2) pa axs := st2.era.seq hpa
  walk_at "go"
  refine ⟨_, rfl, by omega, by omega, ?_⟩
  intro L nL
  refine lc_regs (K := K) (D := D) (fun reg => reg.length = as.length ∧ ∀ t ∈ reg, FTent t) (walkS_rng (n := (1 + r).toNat)) (by omega) nL hd2 (fun i x H3 lt3 st3 hd3 ex P cl => ?_) (fun H3 rs regs st3 hd3 lr hC hL nd hrs hp => ?_)
  · subst ex
    walk_at "go"
    refine ⟨rfl, ?_⟩
    have hpa3 : SqL K H3 pa axs := era_sub.seq (st3.era.seq hpa2)
    walk_at "go"
    intro Li nLi
    refine lc_draw (K := K) (D := D) t3D FTent (walkS_list (d := D.d) (st3.era.seq hpa2)) (by omega) nLi hd3 (fun j x H5 lt5 st5 hd5 ex P cl2 => ?_) (fun H5 acc ts st5 hd5 lts hC hL hdp => ?_)
    · walk_at "go"
      refine ⟨rfl, ?_⟩
      walk_at "go"
      exact ⟨D, rfl, hd5, fun t v H6 k1 k2 k3 k4 => cl2 v H6 t k2 k3 k1 k4⟩
    · exact cl Li H5 ts st5 hd5 ⟨by omega, hC⟩ nLi ⟨acc, hL, (era_sub.trans nw_sub).dps hdp⟩
  have stA := (st1.trans st2).trans st3
  walk_at "go"
  intro p H4 s4 n4 e4
  have st4 := stA.trans (Stp.of s4 stA.2.2)
  have hd4 := hd3.same s4
  have n3 : H3 p = none := n4
  have Ld : L ≠ D.d := fun z => hd2.ne (by rw [← z]; exact nL)
  have rd : ∀ r ∈ rs, r ≠ D.d := fun r m z => hd2.ne (by rw [← z]; exact (hrs r m).1)
  walk_at "go"
  refine ⟨D, 3, rfl, by decide, by decide, hd4, fun r2 H5 r20 r21 st5 hd5 => ?_⟩
  walk_at "go"
  refine ⟨_, rfl, by omega, by omega, ?_⟩
  have st35 : Stp D.d H3 H5 := (Stp.of s4 stA.2.2).trans st5
  refine for_at (1 + r2).toNat (fun i σ' H' => Stp D.d H3 H' ∧ DeckAt H' D ∧ ∃ (o : List Gd) (y5 y6 y7 y8 y9 : Option V), σ' = [some (.ref D.d), some (.int 1), some (.ref pa), some (.ref L), some (.ref p), y5, y6, y7, y8, y9] ∧ Lst K H3 p H' (o.map rowD) ∧ o.length = i ∧ ∀ g ∈ o, GOk regs.length g)
    ⟨st35, hd5, [], _, _, _, _, _, rfl, (Lst.start n4 e4).keepS st5 hd3.ne, rfl, fun c h => (by cases h)⟩ (fun i σ' H' lt F => ?_) (fun σ' H' F => ?_)
  · obtain ⟨st, hd', o, y5, y6, y7, y8, y9, rfl, Ls, lo, ho⟩ := F
    refine ⟨lt, fun x H6 yy => ?_⟩
    obtain ⟨rfl, rfl⟩ := yy
    walk_at "go"
    refine ⟨D, rfl, hd', fun ol vo H7 ook st7 hd7 dO => ?_⟩
    obtain ⟨ao, oxs, rfl, hao, hox⟩ := dp_out dO
    have lox := dps_mlen hox
    have hao7 := nw_sub.seq hao
    have o3 := ook.cs
    walk_at "go"
    intro L2 nL2
    refine lc_flatR (K := K) ((ol.map fun c => (c.length : Int)).map PyData.int) (walk_list hao7) (by rw [List.length_map, List.length_map, lox]) (by omega) (flats_map flat_int _) nL2 (fun i x H8 lt s8 e P cl => ?_) (fun H8 acc s8 e8 d8 => ?_)
    · obtain ⟨c, m, dc⟩ := dps_map hox e
      obtain ⟨b, ys, rfl, hb, hy⟩ := dp_con ((nw_sub.trans s8).dp dc)
      walk_at "go"
      refine ⟨rfl, ?_⟩
      walk_at "go"
      refine cl _ _ _ (Same.refl _) ?_ (.int _)
      rw [List.getElem?_map, List.getElem?_map, m, dps_mlen hy]
      rfl
    rw [dps_ints d8] at e8
    walk_at "go"
    refine ⟨_, _, rfl, SqL.of e8, ?_⟩
    have st78 : Stp D.d H3 H8 := (st.trans st7).trans (Stp.of s8 hd7.ne)
    have hd8 := hd7.same s8
    have Ls8 := (Ls.keepS st7 hd3.ne).keep s8
    have p0 := points_nn ol
    have p1 := points_le ol ook.c2
    have hpl := pair_len hp
    walk_at "go"
    refine ⟨Ls8.ty, ?_⟩
    walk_at "go"
    refine ⟨D, 16385, rfl, by decide, by decide, hd8, fun adv H9 adv0 adv1 st9 hd9 => ?_⟩
    have st9' := st78.trans st9
    have hL9 : SqL K H9 L (rs.map V.ref) := SqL.of (st9'.1 _ _ Ld hL)
    walk_at "go"
    refine ⟨D, points ol, (rs.map V.ref).length, rfl, hd9, p0, by omega, by rw [List.length_map]; omega, by rw [List.length_map]; omega, fun dl vd HB dok stB hdB dD => ?_⟩
    walk_at "go"
    intro u HC sC nC eC
    have stBall := st9'.trans stB
    have Ls9 := (Ls8.keepS st9 hd3.ne).keepS stB hd3.ne
    have LsC := Ls9.keep sC
    have stI : Stp D.d _ HB := ((st7.trans (Stp.of s8 hd7.ne)).trans st9).trans stB
    have dO2 := (nw_mono sC).dp ((Stp.nw ((Stp.of s8 hd7.ne).trans (st9.trans stB)) hd'.ne).dp dO)
    have dD2 := (nw_mono sC).dp ((nw_back ((st7.trans (Stp.of s8 hd7.ne)).trans st9).dom).dp dD)
    have dU := Dp.lst (K := K) (SqL.of (K := K) (by rw [nw_new (stI.dom _ nC)]; exact eC)) (.cons (.int adv) (.cons dO2 (.cons dD2 .nil)))
    walk_at "go"
    obtain ⟨acc2, ea, lac, L3⟩ := LsC.new st.dom Ls.ne (d := rowD ⟨adv, ol, dl⟩) dU (by rw [List.length_map]; omega)
    refine x_app ea lac ?_
    walk_at "go"
    refine ⟨(stBall.trans (Stp.of sC stBall.2.2)).app n4, (hdB.same sC).app hd3 n4, o ++ [⟨adv, ol, dl⟩], _, _, _, _, _, rfl, by rw [List.map_append]; exact L3, by rw [List.length_append, lo]; rfl, fun z hz => ?_⟩
    rcases List.mem_append.mp hz with hz | hz
    · exact ho z hz
    · rw [List.mem_singleton.mp hz]
      refine ⟨adv0, by show adv ≤ 16384; omega, ook.cs, ook.c2, ook.pt, dok.len, fun d hd => ?_⟩
      obtain ⟨q1, q2, q3, q4, q5, q6⟩ := dok.all d hd
      rw [List.length_map] at q2
      exact ⟨q1, by omega, q3, q4, q5, q6⟩
  · obtain ⟨st, hd', o, y5, y6, y7, y8, y9, rfl, Ls, lo, ho⟩ := F
    refine ⟨Nat.le_refl _, ?_⟩
    walk_at "go"
    intro m HM sM nM eM
    walk_at "go"
    have hpl := pair_len hp
    have st03 := st.trans (Stp.of sM st.2.2)
    have stAll := stA.trans st03
    have Ls := Ls.keep sM
    have rin : ∀ r ∈ rs, H r = none ∧ H1 r = none ∧ H3 r ≠ none := fun r hr => ⟨(st1.trans st2).dom _ (hrs r hr).1, st2.dom _ (hrs r hr).1, (hrs r hr).2.2⟩
    have mrs : ¬ m ∈ rs := fun hm => (rin m hm).2.2 (st.dom _ nM)
    have Lrs : ¬ L ∈ rs := fun hm => (hrs L hm).2.1 rfl
    obtain ⟨i0, c0, t0, k1, k2, k3, k4⟩ := id hd
    have SN : Same (era2 rs (nw H HM)) HM := fun b u e => by
      by_cases hb : b ∈ rs
      · rw [era2_in hb] at e
        cases e
      · rw [era2_out hb] at e
        exact nw_sub b u e
    refine q (.ref m) HM (era2 rs (nw H HM)) as rs regs o stAll (hd'.same sM) ⟨m, L, .ref pa, .ref p, rfl, ?_, ?_, ?_, ?_, nd, fun r hr => ⟨era2_in hr, rd r hr, fun z => ?_⟩, ?_, SN, ?_⟩ ⟨aok, by omega, by omega, hC, by omega, by omega, ho⟩
    · rw [era2_out mrs, nw_new (stA.dom _ (st.dom _ nM))]
      exact eM
    · rw [era2_out Lrs, nw_new ((st1.trans st2).dom _ nL)]
      exact st03.1 _ _ Ld hL
    · refine Same.dp (fun b u e => ?_) da
      have hb : ¬ b ∈ rs := fun hb => by
        have := nw_sub b u e
        rw [(rin b hb).2.1] at this
        cases this
      rw [era2_out hb]
      exact ((st2.trans (st3.trans st03)).nw hd.ne) b u e
    · refine Same.dp (fun b u e => ?_) Ls.done
      have hb : ¬ b ∈ rs := fun hb => by
        cases q1 : H3 b with
        | none => exact (rin b hb).2.2 q1
        | some o1 =>
          rw [nw_old q1] at e
          cases e
      rw [era2_out hb]
      exact nw_back stA.dom b u e
    · have z2 := (rin r hr).1
      rw [z, k2] at z2
      cases z2
    · rw [era2_out (fun hb => rd _ hb rfl), nw_old k1]
    · exact pair_all (fun r hr reg qq => (RegAt.stp (D := D) qq (rd r hr) hd3 st03)) hp
/-! ### _law_styled_font -/
def madeD (as : List Ax) (regs : List (List Ax)) (rows : List Gd) : PyData := .list [.list (as.map t3D), .list (regs.map regD), .list (rows.map rowD)]
def spSFont (K : PySem.W.Frag) : Sp := fun vs H Q _ => ∃ (v : V) (f : Fd), vs = [v] ∧ Dp K H v (madeD f.axes f.regs f.gs) ∧ FOk f ∧ ∀ v H', Same H H' → FontAt K H' v f → Q v H'
abbrev sc_law_styled_fontN : List Str := ["_law_made", "_law_glyphs", "_law_row", "_law_contour", "_law_region"]
theorem sc_law_styled_font : FnScope sc_law_styled_fontN ["_law_made"] (defScope s_law_styled_font) := ⟨rfl, rfl, rfl, by decide +kernel, rfl, by decide +kernel, by decide +kernel⟩
theorem k_law_styled_font (T : Txt K mg) : Kept P w K mg base CX0 7 "_law_styled_font" ["_law_made"] [] (spSFont K) := by
  obtain ⟨fd, F⟩ := T.f_law_styled_font
  refine ⟨_, fd, [], T.g__law_styled_font, F.kp, F.bindsN (ps := ["_law_made"]) (fun _ _ _ _ _ _ us hl => match us, hl with | [_], _ => rfl), .nil, ?_⟩
  refine ok0 F sc_law_styled_font (fun vs H Q E h => ?_) (fun cdv A outer s H vs Q E hr h => ?_)
  · obtain ⟨v, f, rfl, _⟩ := h
    rfl
  refine ⟨_, (pss_cons (ps_setLc (i := 1) (own := [("_law_row", 2)]) (tt := tYes) rfl sc_law_styled_font.nd rfl rfl (sw_true rfl rfl rfl (by decide +kernel)) (pi_list (pe_ix ix_list (pv 0) pe_int (fun _ _ => rfl))) (blkOk_by (N := sc_law_styled_fontN) (sc := (defScope s_law_styled_font)) (by decide +kernel)) (fun _ _ _ _ _ => (pg_name (i := 2) sc_law_styled_font.nd rfl (.inl rfl))) (fun _ _ _ _ _ => pts_nil) (fun _ _ _ _ _ => (pe_kk (k_make_Glyph_2_deltas T) (by decide) hr (by rfl) pass0 (pa_cons (pe_ix (ix_listK K rfl) (pv 2) pe_int (fun _ _ => rfl)) (pa_cons (pe_lc (own := [("_law_contour", 3)]) (tt := tYes) rfl sc_law_styled_font.nd (itlK K rfl (pe_ix (ix_listK K rfl) (pv 2) pe_int (fun _ _ => rfl))) (blkOk_by (N := sc_law_styled_fontN) (sc := (relS _ (defScope s_law_styled_font))) (by decide +kernel)) (fun _ _ _ _ _ => (pg_name (i := 3) sc_law_styled_font.nd rfl (.inl rfl))) (fun _ _ _ _ _ => pts_nil) (fun _ _ _ _ _ => (pe_callTy (lofK K rfl) (by rfl) (Txt.n_list T) (by decide +kernel) (pa_cons (pv 3) pa_nil)))) pa_nil)) (pk_cons (pe_callTy (lofK K rfl) (by rfl) (Txt.n_list T) (by decide +kernel) (pa_cons (pe_ix (ix_listK K rfl) (pv 2) pe_int (fun _ _ => rfl)) pa_nil)) pk_nil))))
      (pss_one (ps_ret (pe_kk (k_make_Font_2_axes_regions T) (by decide) hr (by rfl) pass0 (pa_cons pe_int (pa_cons (pv 1) pa_nil)) (pk_cons (pe_callTy (lofK K rfl) (by rfl) (Txt.n_list T) (by decide +kernel) (pa_cons (pe_ix ix_list (pv 0) pe_int (fun _ _ => rfl)) pa_nil)) (pk_cons (pe_lc (own := [("_law_region", 4)]) (tt := tYes) rfl sc_law_styled_font.nd (pi_list (pe_ix ix_list (pv 0) pe_int (fun _ _ => rfl))) (blkOk_by (N := sc_law_styled_fontN) (sc := (defScope s_law_styled_font)) (by decide +kernel)) (fun _ _ _ _ _ => (pg_name (i := 4) sc_law_styled_font.nd rfl (.inl rfl))) (fun _ _ _ _ _ => pts_nil) (fun _ _ _ _ _ => (pe_callTy (lofK K rfl) (by rfl) (Txt.n_list T) (by decide +kernel) (pa_cons (pv 4) pa_nil)))) pk_nil)))))), ?_⟩
  obtain ⟨v, f, rfl, dv, fok, q⟩ := h
  obtain ⟨pm, mxs, rfl, hm, hmx⟩ := dp_lst dv
  obtain ⟨v0, r, rfl, d0, hmx⟩ := dps_cons hmx
  obtain ⟨v1, r, rfl, d1, hmx⟩ := dps_cons hmx
  obtain ⟨v2, r, rfl, d2, hmx⟩ := dps_cons hmx
  rw [dps_nil hmx] at hm
  obtain ⟨p2, gxs, rfl, hg1, hgx⟩ := dp_lst d2
  have lg := dps_mlen hgx
  have g2 := fok.g2
  have r4 := fok.r4
  walk_at "go"
  intro L nL
  refine lc_obj (GlyphAt K) (fun _ _ _ _ s h => GlyphAt.same s h) H (Same.refl _) f.gs (walk_list hg1) lg.symm (by omega) nL (fun i y H3 lt s3 e P cl => ?_) (fun H3 acc s3 hL hp => ?_)
  · obtain ⟨gd, mg, dg⟩ := dps_map hgx e
    have gok := fok.gs gd (List.mem_of_getElem? mg)
    obtain ⟨pr, rxs, rfl, hr1, hrx⟩ := dp_lst dg
    obtain ⟨w0, r, rfl, e0, hrx⟩ := dps_cons hrx
    obtain ⟨w1, r, rfl, e1, hrx⟩ := dps_cons hrx
    obtain ⟨w2, r, rfl, e2, hrx⟩ := dps_cons hrx
    rw [dps_nil hrx] at hr1
    cases dp_int e0
    have hr3 := s3.seq hr1
    obtain ⟨po, oxs, rfl, hpo, hox⟩ := dp_out e1
    have lo := dps_mlen hox
    have c3 := gok.cs
    have hpo3 := s3.seq hpo
    walk_at "go"
    refine ⟨rfl, ?_⟩
    walk_at "go"
    intro L2 nL2
    refine lc_obj (fun H v d => Dp K H v d) (fun _ _ _ _ s h => s.dp h) H s3 (gd.out.map conD) (walk_list hpo3) (by rw [List.length_map, lo]) (by omega) nL2 (fun i y H5 lt s5 e P cl => ?_) (fun H5 acc s5 hL hp => ?_)
    · obtain ⟨c, mc, dc⟩ := dps_map hox e
      obtain ⟨b, ys, rfl, hb, hy⟩ := dp_con dc
      have hb5 := (s3.trans s5).seq hb
      walk_at "go"
      refine ⟨rfl, ?_⟩
      walk_at "go"
      intro l H6 s6 n6 e6
      refine cl _ _ (conD c) s6 (by rw [List.getElem?_map, mc]; rfl) ?_
      exact .lst (SqL.of (by rw [ext_new n6]; exact e6)) ((sub_ext (s3.trans s5)).dps hy)
    have dO : Dp K (ext H H3 H5) (.ref L2) (outD gd.out) := obj_dp nL2 hL hp
    have hr5 := s5.seq hr3
    obtain ⟨pd, dxs, rfl, hpd, hdx⟩ := dp_lst e2
    have hpd5 := (s3.trans s5).seq hpd
    walk_at "go"
    intro l H6 s6 n6 e6
    walk_at "go"
    refine ⟨rfl, rfl, fun x dx nx nd ne => ?_⟩
    have kE := fun q hq => (Txt.more T).2.2.2.2.2.2.2 q hq H6
    have s36 := s5.trans s6
    exact ⟨x, dx, H6, ext H H3 H6, .ref L2, _, _, .ref l, _, gd, rfl, rfl, nx, nd, ne, ext_sub s3 s36, (ext_mono s6).dp dO, by omega,
      SeqD.tup (kE (("Glyph", some "__init__"), "parts") (.head _)), SeqD.tup (kE (("Glyph", some "__init__"), "anchors") (.tail _ (.head _))), ⟨l, dxs, rfl, .inl (SqL.of e6), (sub_ext s3).dps hdx⟩, SeqD.tup (kE (("Glyph", some "__init__"), "hint") (.tail _ (.tail _ (.tail _ (.head _))))),
      fun H' s' hG => ⟨rfl, cl _ H' gd (s36.trans s') mg (GlyphAt.same (ext_trans s36 s') hG)⟩⟩
  have hG : Paired (GlyphAt K H3) acc f.gs := pair_mono (fun _ _ q => GlyphAt.same (era_sub.trans (ext_whole s3)) q) hp
  have hm3 := s3.seq hm
  obtain ⟨p0, axs, rfl, hp0, hax⟩ := dp_lst d0
  have hp03 := s3.seq hp0
  walk_at "go"
  intro la H4 s4 n4 e4
  have s34 := s3.trans s4
  have dA : Dp K H4 (.ref la) (.list (f.axes.map t3D)) := .lst (SqL.of e4) (s34.dps hax)
  have hm4 := s34.seq hm
  obtain ⟨p1, rxs, rfl, hp1, hrx⟩ := dp_lst d1
  have lr := dps_mlen hrx
  have hp14 := s34.seq hp1
  walk_at "go"
  intro lr' nlr
  refine lc_obj (fun H v d => Dp K H v d) (fun _ _ _ _ s h => s.dp h) H4 (Same.refl _) (f.regs.map regD) (walk_list hp14) (by rw [List.length_map, lr]) (by omega) nlr (fun i y H5 lt s5 e P cl => ?_) (fun H5 acc2 s5 hL5 hp5 => ?_)
  · obtain ⟨r, mr, dr⟩ := dps_map hrx e
    obtain ⟨b, ys, rfl, hb, hy⟩ := dp_lst (s34.dp dr)
    have hb3 := s5.seq hb
    walk_at "go"
    refine ⟨rfl, ?_⟩
    walk_at "go"
    intro l H6 s6 n6 e6
    refine cl _ _ (regD r) s6 (by rw [List.getElem?_map, mr]; rfl) ?_
    exact .lst (SqL.of (by rw [ext_new n6]; exact e6)) ((sub_ext s5).dps hy)
  have dR : Dp K H5 (.ref lr') (.list (f.regs.map regD)) := (ext_whole s5).dp (obj_dp nlr hL5 hp5)
  walk_at "go"
  refine ⟨rfl, rfl, fun x dx nx nd ne => ?_⟩
  have kE := fun q hq => (Txt.more T).2.2.2.2.2.2.2 q hq H5
  have s45 := s4.trans s5
  exact ⟨x, dx, L, H5, acc, _, _, _, _, _, _, _, f, rfl, rfl, nx, nd, ne, SqL.of (s45 _ _ hL), pair_mono (fun _ _ q => GlyphAt.same s45 q) hG,
    SeqD.tup (kE (("Font", some "__init__"), "chars") (.tail _ (.tail _ (.tail _ (.tail _ (.head _)))))), SeqD.tup (kE (("Font", some "__init__"), "lookups") (.tail _ (.tail _ (.tail _ (.tail _ (.tail _ (.head _))))))), SeqD.tup (kE (("Font", some "__init__"), "features") (.tail _ (.tail _ (.tail _ (.tail _ (.tail _ (.tail _ (.head _)))))))),
    SeqD.of (s5.dp dA), SeqD.of dR, SeqD.tup (kE (("Font", some "__init__"), "functions") (.tail _ (.tail _ (.tail _ (.tail _ (.tail _ (.tail _ (.tail _ (.tail _ (.tail _ (.head _)))))))))) ), SeqD.tup (kE (("Font", some "__init__"), "presets") (.tail _ (.tail _ (.tail _ (.tail _ (.tail _ (.tail _ (.tail _ (.tail _ (.tail _ (.tail _ (.head _)))))))))))),
    fok, fun H' s' hF => ⟨rfl, q _ _ ((s3.trans s45).trans s') hF⟩⟩
/-! ### _law_instance -/
def spInst (K : PySem.W.Frag) : Sp := fun vs H Q _ => ∃ (vf vp : V) (f : Fd) (pl : List Int), vs = [vf, vp] ∧ FontAt K H vf f ∧ Dp K H vp (.list (pl.map .int)) ∧ FOk f ∧ InAx f.axes pl ∧
  (∀ gs, instM f (sharesM f.axes pl) = some gs → ∀ v H', Same H H' → FontAt K H' v ⟨gs, [], []⟩ → Q v H') ∧ (instM f (sharesM f.axes pl) = none → ∀ H', Same H H' → Q .non H')
abbrev sc_law_instanceN : List Str := ["_law_font", "_law_place_here", "e"]
theorem sc_law_instance : FnScope sc_law_instanceN ["_law_font", "_law_place_here"] (defScope s_law_instance) := ⟨rfl, rfl, rfl, by decide +kernel, rfl, by decide +kernel, by decide +kernel⟩
theorem k_law_instance (T : Txt K mg) : Kept P w K mg base CX0 9 "_law_instance" ["_law_font", "_law_place_here"] [] (spInst K) := by
  obtain ⟨fd, F⟩ := T.f_law_instance
  refine ⟨_, fd, [], T.g__law_instance, F.kp, F.bindsN (ps := ["_law_font", "_law_place_here"]) (fun _ _ _ _ _ _ us hl => match us, hl with | [_, _], _ => rfl), .nil, ?_⟩
  refine ok0 F sc_law_instance (fun vs H Q E h => ?_) (fun cdv A outer s H vs Q E hr h => ?_)
  · obtain ⟨vf, vp, f, pl, rfl, _⟩ := h
    rfl
  refine ⟨_, (pss_one (ps_try_as (i := 2) (tb := fun W => tRet (tCallS (spAtPlace K) (WE W) (tCons (tVar 0) (tCons (tVar 1) tNil)))) (ts := fun _ _ _ => tRet (tC .non)) (Wout := fun _ _ _ _ => False) rfl rfl sc_law_instance.nd rfl rfl ⟨rfl, by decide, Or.inl (Txt.g_OutOfRange T)⟩ takes0
    (fun W pn xe tk _ => pss_one (ps_ret (by exact (pe_kcS (k_at_place T) (by decide) hr (by rfl) (fun σ => passAt tk σ) (by exact (pa_cons (pv 0) (pa_cons (pv 1) pa_nil)))))))
    (fun a oe cls d pn hz hf => pss_one (ps_ret pe_non)))), ?_⟩
  obtain ⟨vf, vp, f, pl, rfl, hf, dp, fok, hi, g, gn⟩ := h
  refine ⟨_, rfl, _, rfl, ?_⟩
  exact ⟨vf, vp, f, pl, rfl, hf, dp, fok, hi, fun gs eg v H' s' hF => g gs eg v H' s' hF, fun en d H' s' => ⟨true, Txt.exm T, fun _ a na => gn en H' s', fun z => Bool.noConfusion z⟩⟩
end
end Fl
set_option Elab.async false
set_option linter.all false
set_option maxRecDepth 100000
set_option maxHeartbeats 4000000
/-! The law. -/
namespace Fl
open PySem PySem.Spec PyProof.Rows L2
local macro_rules | `(tactic| walk_at "fx") => `(tactic| first | assumption | solve_by_elim [seqT, Same.trans, Same.seq])
local macro_rules | `(tactic| walk_at "cl") => `(tactic| first | assumption | exact Txt.c_Glyph (by assumption) | exact Txt.c_Font (by assumption) | exact Txt.c_Moves (by assumption))
local macro_rules | `(tactic| walk_at "na") => `(tactic| first | assumption | exact Txt.a_Glyph_advance (by assumption) | exact Txt.a_Glyph_outline (by assumption) | exact Txt.a_Glyph_parts (by assumption) | exact Txt.a_Glyph_anchors (by assumption) | exact Txt.a_Glyph_mark (by assumption) | exact Txt.a_Glyph_deltas (by assumption) | exact Txt.a_Glyph_hint (by assumption) | exact Txt.a_Font_unit (by assumption) | exact Txt.a_Font_glyphs (by assumption) | exact Txt.a_Font_chars (by assumption) | exact Txt.a_Font_lookups (by assumption) | exact Txt.a_Font_features (by assumption) | exact Txt.a_Font_axes (by assumption) | exact Txt.a_Font_regions (by assumption) | exact Txt.a_Font_functions (by assumption) | exact Txt.a_Font_presets (by assumption) | exact Txt.a_Moves_sums (by assumption))
local macro_rules | `(tactic| walk_at "step") => `(tactic| first
  | (with_reducible refine x_c ?_)
  | ((with_reducible show tVar _ _ _ _); refine ⟨_, rfl, ?_⟩)
  | (with_reducible refine x_op ?_) | (with_reducible refine x_seq ?_) | (with_reducible refine x_nx ?_) | (with_reducible refine x_asg ?_) | (with_reducible refine x_name ?_)
  | ((with_reducible show rI0 _ _ _ _ _); refine ⟨_, _, rfl, rfl, ?_⟩)
  | (with_reducible refine x_ret ?_) | (with_reducible refine x_rt ?_) | (with_reducible refine x_ifS ?_) | (with_reducible refine x_test ?_) | (with_reducible refine x_bl ?_)
  | (with_reducible refine x_cons ?_) | (with_reducible refine x_nil ?_) | (with_reducible refine x_call ?_) | (with_reducible refine x_CB ?_)
  | ((with_reducible refine' x_ixT ?h ?e ?q); (case h => walk_at "fx"); (case e => rfl))
  | ((with_reducible refine' x_ixL ?h ?e ?q); (case h => walk_at "fx"); (case e => rfl))
  | (with_reducible refine x_fld ?_)
  | ((with_reducible refine' x_at ?h ?c ?n ?l ?q); (case h => walk_at "fx"); (case c => walk_at "cl"); (case n => walk_at "na"); (case l => rfl))
  | (with_reducible refine x_un ?_) | ((with_reducible show rU _ _ _ _); refine ⟨_, rfl, ?_⟩)
  | (with_reducible refine x_not ?_) | (with_reducible refine x_and ?_) | (with_reducible refine x_or ?_) | (with_reducible refine x_tB ?_) | (with_reducible refine x_andV ?_) | (with_reducible refine x_notV ?_) | (with_reducible refine x_chain ?_) | (with_reducible refine x_chn ?_) | (with_reducible refine x_link ?_) | (with_reducible refine x_last ?_)
  | ((with_reducible refine x_eq ?s ?_); (case s => rfl)) | ((with_reducible refine x_ne ?s ?_); (case s => rfl))
  | (with_reducible refine x_tup ?_) | (with_reducible refine x_lst ?_) | (with_reducible refine x_disp (Nat.le_of_ble_eq_true rfl) ?_)
  | (with_reducible refine x_retN ?_) | (with_reducible refine x_drop ?_) | (with_reducible refine x_next ?_) | (with_reducible refine x_bk ?_) | (with_reducible refine x_ct ?_) | (with_reducible refine x_sfld ?_)
  | ((with_reducible refine' x_gtup ?h ?e ?q); (case h => walk_at "fx"); (case e => rfl)) | ((with_reducible refine' x_gunl ?h ?e ?q); (case h => walk_at "fx"); (case e => rfl))
  | (with_reducible refine x_gcons ?_) | (with_reducible refine x_gnil ?_) | (with_reducible refine x_gsub ?_)
  | (with_reducible refine x_for ?_) | ((with_reducible refine' x_lcSeq ?hv ?h ?q); (case hv => rfl); (case h => assumption)) | (with_reducible refine x_lc ?_) | (with_reducible refine x_yes ?_) | (with_reducible refine x_iList ?_) | (with_reducible refine x_iTup ?_) | (with_reducible refine x_iSeq ?_) | (with_reducible refine x_iZip ?_) | (with_reducible refine x_iEnum ?_) | (with_reducible refine x_iRng1 ?_)
  | ((with_reducible refine' x_itL ?h ?q); (case h => walk_at "fx")) | ((with_reducible refine' x_itT ?h ?q); (case h => walk_at "fx")) | ((with_reducible refine' x_itSL ?h ?q); (case h => walk_at "fx")) | ((with_reducible refine' x_itST ?h ?q); (case h => walk_at "fx"))
  | ((with_reducible refine' x_itZ ?h1 ?h2 ?q); (case h1 => walk_at "fx"); (case h2 => walk_at "fx")) | ((with_reducible refine' x_itE ?h ?q); (case h => walk_at "fx"))
  | ((with_reducible refine' x_lenL ?h ?q); (case h => walk_at "fx")) | ((with_reducible refine' x_lenT ?h ?q); (case h => walk_at "fx"))
  | ((with_reducible refine' x_lofB ?h ?q); (case h => assumption)) | ((with_reducible refine' x_lofL ?h ?q); (case h => walk_at "fx")) | ((with_reducible refine' x_lofT ?h ?q); (case h => walk_at "fx"))
  | ((with_reducible refine' x_augV ?hv ?h); (case hv => rfl)) | (with_reducible refine x_ipI ?_) | (with_reducible refine x_meth ?_) | ((with_reducible refine' x_mt ?h ?l ?q); (case h => walk_at "fx"); (case l => rfl)) | (with_reducible refine x_js ?_) | (with_reducible refine x_js0 ?_) | (with_reducible refine x_fmtI ?_) | (with_reducible refine x_make ?_) | (with_reducible refine x_bm ?_) | (with_reducible refine x_dget2 ?_) | ((with_reducible refine' x_isD ?h ?q); (case h => walk_at "fx")) | ((with_reducible refine' x_dg ?h ?q); (case h => walk_at "fx")) | (with_reducible refine x_din ?_) | ((with_reducible refine' x_dinA ?h ?q); (case h => walk_at "fx")) | (with_reducible refine x_dput ?_) | (with_reducible refine x_makeK ?_)
  | (with_reducible refine iteT ?_) | (with_reducible refine iteF ?_) | (with_reducible refine ifNT' ?_) | (with_reducible refine ifNF' ?_))
local macro_rules | `(tactic| walk_at "go") => `(tactic| repeat walk_at "step")
section
variable {P : Program} {w : World} {K : PySem.W.Frag} {mg : Str → Option Value} {base : Heap}
def spLaw (K : PySem.W.Frag) : Sp := fun vs H Q _ => ∃ (a : Addr) (ns : List Int), vs = [.ref a] ∧ SqL K H a (ns.map V.int) ∧ ∀ H', Q (.bl true) H'
theorem ft_upd {as : List Ax} {regs : List (List Ax)} {i : Nat} {new : List Ax} (h : ∀ r ∈ regs, r.length = as.length ∧ ∀ t ∈ r, FTent t) (n : new.length = as.length ∧ ∀ t ∈ new, FTent t) : ∀ r ∈ regs.set i new, r.length = as.length ∧ ∀ t ∈ r, FTent t := fun r m => by
  rcases List.mem_or_eq_of_mem_set m with m | rfl
  · exact h r m
  · exact n
theorem same_stp {N H H' : Hp} {d : Addr} (s : Same N H) (n : N d = none) (t : Stp d H H') : Same N H' := fun b o e => t.1 b o (fun z => by rw [z, n] at e; cases e) (s b o e)
theorem made_dp {N H : Hp} {m rg : Addr} {ax rw : V} {as : List Ax} {rs : List Addr} {regs : List (List Ax)} {rows : List Gd} (m1 : N m = some (.lst [ax, .ref rg, rw])) (m2 : N rg = some (.lst (rs.map V.ref))) (m3 : Dp K N ax (.list (as.map t3D))) (m4 : Dp K N rw (.list (rows.map rowD)))
    (s : Same N H) (hp : Paired (RegAt K H) rs regs) : Dp K H (.ref m) (madeD as regs rows) :=
  .lst (SqL.of (s _ _ m1)) (.cons (s.dp m3) (.cons (.lst (SqL.of (s _ _ m2)) (regs_dp hp)) (.cons (s.dp m4) .nil)))
theorem fok_of {as : List Ax} {regs regs' : List (List Ax)} {rows : List Gd} (mok : MadeOk as regs rows) (l : regs'.length = regs.length) (hf : ∀ r ∈ regs', r.length = as.length ∧ ∀ t ∈ r, FTent t) : FOk ⟨rows, as, regs'⟩ := by
  obtain ⟨⟨a1, a3, ao⟩, ok2, ok3, ok4, ok5, ok6, ok7⟩ := mok
  refine ⟨ok5, ok6, fun g m => ?_, a3, fun a m => ?_, by show regs'.length ≤ 4; omega, fun r m => ⟨(hf r m).1, fun t mt => ((hf r m).2 t mt).ok⟩, fun r m t mt => ((hf r m).2 t mt).sp⟩
  · show GOk regs'.length g
    rw [l]
    exact ok7 g m
  · obtain ⟨b1, b2, b3, b4⟩ := ao a m
    exact ⟨by omega, b2, b3, by omega⟩
theorem fok_wide {as : List Ax} {regs : List (List Ax)} {rows : List Gd} (ao : axesOk as) (h : FOk ⟨rows, as, regs⟩) : FOk ⟨rows, as.map wideA, regs⟩ := by
  obtain ⟨h1, h2, h3, h4, h5, h6, h7, h8⟩ := h
  obtain ⟨a1, a3, ao⟩ := ao
  refine ⟨h1, h2, h3, by show (as.map wideA).length ≤ 3; rw [List.length_map]; exact a3, fun a m => ?_, h6, fun r m => ⟨by show r.length = (as.map wideA).length; rw [List.length_map]; exact (h7 r m).len, (h7 r m).all⟩, h8⟩
  obtain ⟨b, mb, rfl⟩ := List.mem_map.mp m
  obtain ⟨b1, b2, b3, b4⟩ := ao b mb
  exact ⟨by show -2000 ≤ b.2.1 + 2 * (b.1 - b.2.1); omega, by show b.2.1 + 2 * (b.1 - b.2.1) ≤ b.2.1; omega, by show b.2.1 ≤ b.2.1 + 2 * (b.2.2 - b.2.1); omega, by show b.2.1 + 2 * (b.2.2 - b.2.1) ≤ 2000; omega⟩
def goodTo (i : Nat) (regs : List (List Ax)) : Prop := ∀ (j : Nat) (r : List Ax), j < i → regs[j]? = some r → Good r
abbrev sc_lawN : List Str := ["_law_script", "_law_deck_here", "_law_made", "_law_region", "_law_peak", "_law_font", "_law_normal", "_law_k", "_law_place_here", "_law_first", "_law_wide", "_law_other", "_law_far", "_law_axis"]
theorem sc_law : FnScope sc_lawN ["_law_script"] (defScope s_law) := ⟨rfl, rfl, rfl, by decide +kernel, rfl, by decide +kernel, by decide +kernel⟩
theorem ok_law (T : Txt K mg) {fd : FuncData} (F : FunD K "law" "law" (defArgs s_law) (defBody s_law) (defScope s_law) (He.DefD.dvs K d_law) (He.DefD.kws K d_law) (He.fAd K ("law", none)) fd) :
    FnOk P w K mg base CX0 10 (He.fAd K ("law", none)) fd ["_law_script"] (spLaw K) := by
  refine ok0 F sc_law (fun vs H Q E h => ?_) (fun cdv A outer s H vs Q E hr h => ?_)
  · obtain ⟨_, _, rfl, _⟩ := h
    rfl
  refine ⟨_, (pss_cons (ps_set (i := 1) sc_law.nd rfl (.inl rfl) (pe_kc (k_law_deck T) (by decide) hr (by rfl) pass0 (pa_cons (pv 0) pa_nil)))
      (pss_cons (ps_set (i := 2) sc_law.nd rfl (.inl rfl) (pe_kc (k_law_styled T) (by decide) hr (by rfl) pass0 (pa_cons (pv 1) (pa_cons pe_int pa_nil))))
      (pss_cons (ps_for PassesOwn.never rfl (pi_list (pe_ix ix_list (pv 2) pe_int (fun _ _ => rfl))) (pg_name (i := 3) sc_law.nd rfl (.inl rfl)) (pss_cons (ps_set (i := 4) sc_law.nd rfl (.inl rfl) (pe_op op_add pe_int (pe_kc (k_law_draw T) (by decide) hr (by rfl) pass0 (pa_cons (pv 1) (pa_cons pe_int pa_nil)))))
      (pss_one (ps_asg (pe_tup (pa_cons (pe_kc (k_law_draw T) (by decide) hr (by rfl) pass0 (pa_cons (pv 1) (pa_cons (pe_op op_add (pv 4) pe_int) pa_nil))) (pa_cons (pv 4) (pa_cons pe_int pa_nil)))) (pg_sub (pv 3) (pe_kc (k_law_draw T) (by decide) hr (by rfl) pass0 (pa_cons (pv 1) (pa_cons (pe_callB (lenK K rfl) (by rfl) (Txt.n_len T) PySem.boot_len (pa_cons (pv 3) pa_nil)) pa_nil))) set_list)))))
      (pss_cons (ps_set (i := 5) sc_law.nd rfl (.inl rfl) (pe_kc (k_law_styled_font T) (by decide) hr (by rfl) pass0 (pa_cons (pv 2) pa_nil)))
      (pss_cons (ps_set (i := 6) sc_law.nd rfl (.inl rfl) (pe_kc (k_law_instance T) (by decide) hr (by rfl) pass0 (pa_cons (pv 5) (pa_cons (pe_lc (own := [("_law_axis", 13)]) (tt := tYes) rfl sc_law.nd (pi_list (pe_ix ix_list (pv 2) pe_int (fun _ _ => rfl))) (blkOk_by (N := sc_lawN) (sc := (defScope s_law)) (by decide +kernel)) (fun _ _ _ _ _ => (pg_name (i := 13) sc_law.nd rfl (.inl rfl))) (fun _ _ _ _ _ => pts_nil) (fun _ _ _ _ _ => (pe_ix (ix_tupK K rfl) (pv 13) pe_int (fun _ _ => rfl)))) pa_nil))))
      (pss_cons (ps_if (pt_cmpR op_isN (pv 6) pe_non (nomark _)) (pss_one (ps_ret pe_bl)) pss_nil)
      (pss_cons (ps_for PassesOwn.never rfl (pi_range1 (by rfl) (Txt.n_range T) (pa_cons (pe_callB (lenK K rfl) (by rfl) (Txt.n_len T) PySem.boot_len (pa_cons (pe_ix ix_list (pv 2) pe_int (fun _ _ => rfl)) pa_nil)) pa_nil)) (pg_name (i := 7) sc_law.nd rfl (.inl rfl)) (pss_one (ps_if (PW.pt (pw_or (pt_cmpR (op_neD hr.units) (pe_fld (pe_ix ix_list (pe_fld (pv 6) rfl) (pv 7) (fun _ _ => rfl)) rfl) (pe_ix ix_list (pe_ix ix_list (pe_ix ix_list (pv 2) pe_int (fun _ _ => rfl)) (pv 7) (fun _ _ => rfl)) pe_int (fun _ _ => rfl)) (nomark _)) (pw_or1 (pt_cmpR op_ne (pe_fld (pe_ix ix_list (pe_fld (pv 6) rfl) (pv 7) (fun _ _ => rfl)) rfl) (pe_ix ix_list (pe_ix ix_list (pe_ix ix_list (pv 2) pe_int (fun _ _ => rfl)) (pv 7) (fun _ _ => rfl)) pe_int (fun _ _ => rfl)) (nomark _))))) (pss_one (ps_ret pe_bl)) pss_nil)))
      (pss_cons (ps_if (pt_not (pt_val (pe_kc (k_same_font T) (by decide) hr (by rfl) pass0 (pa_cons (pe_kc (k_at_place T) (by decide) hr (by rfl) passF (pa_cons (pv 6) (pa_cons (pe_lst pa_nil) pa_nil))) (pa_cons (pv 6) pa_nil))))) (pss_one (ps_ret pe_bl)) pss_nil)
      (pss_cons (ps_set (i := 8) sc_law.nd rfl (.inr rfl) (pe_kc (k_law_place T) (by decide) hr (by rfl) pass0 (pa_cons (pv 1) (pa_cons (pe_ix ix_list (pv 2) pe_int (fun _ _ => rfl)) pa_nil))))
      (pss_cons (ps_set (i := 9) sc_law.nd rfl (.inl rfl) (pe_kc (k_law_instance T) (by decide) hr (by rfl) pass0 (pa_cons (pv 5) (pa_cons (pv 8) pa_nil))))
      (pss_cons (ps_if (pt_cmpR op_isN (pv 9) pe_non (nomark _)) (pss_one (ps_ret pe_bl)) pss_nil)
      (pss_cons (ps_if (pt_not (pt_val (pe_kc (k_same_font T) (by decide) hr (by rfl) pass0 (pa_cons (pe_kc (k_at_place T) (by decide) hr (by rfl) passF (pa_cons (pv 9) (pa_cons (pe_lst pa_nil) pa_nil))) (pa_cons (pv 9) pa_nil))))) (pss_one (ps_ret pe_bl)) pss_nil)
      (pss_cons (ps_setLc (i := 10) (own := [("_law_axis", 13)]) (tt := tYes) rfl sc_law.nd rfl rfl (sw_true rfl rfl rfl (by decide +kernel)) (pi_list (pe_ix ix_list (pv 2) pe_int (fun _ _ => rfl))) (blkOk_by (N := sc_lawN) (sc := (defScope s_law)) (by decide +kernel)) (fun _ _ _ _ _ => (pg_name (i := 13) sc_law.nd rfl (.inl rfl))) (fun _ _ _ _ _ => pts_nil) (fun _ _ _ _ _ => (pe_tup (pa_cons (pe_op op_add (pe_ix (ix_tupK K rfl) (pv 13) pe_int (fun _ _ => rfl)) (pe_op op_mul pe_int (pe_op op_sub (pe_ix (ix_tupK K rfl) (pv 13) pe_int (fun _ _ => rfl)) (pe_ix (ix_tupK K rfl) (pv 13) pe_int (fun _ _ => rfl))))) (pa_cons (pe_ix (ix_tupK K rfl) (pv 13) pe_int (fun _ _ => rfl)) (pa_cons (pe_op op_add (pe_ix (ix_tupK K rfl) (pv 13) pe_int (fun _ _ => rfl)) (pe_op op_mul pe_int (pe_op op_sub (pe_ix (ix_tupK K rfl) (pv 13) pe_int (fun _ _ => rfl)) (pe_ix (ix_tupK K rfl) (pv 13) pe_int (fun _ _ => rfl))))) pa_nil))))))
      (pss_cons (ps_set (i := 11) sc_law.nd rfl (.inl rfl) (pe_kc (k_law_styled_font T) (by decide) hr (by rfl) pass0 (pa_cons (pe_lst (pa_cons (pv 10) (pa_cons (pe_ix ix_list (pv 2) pe_int (fun _ _ => rfl)) (pa_cons (pe_ix ix_list (pv 2) pe_int (fun _ _ => rfl)) pa_nil)))) pa_nil)))
      (pss_cons (ps_setLc (i := 12) (own := [("_law_k", 7), ("_law_axis", 13)]) (tt := tYes) rfl sc_law.nd rfl rfl (sw_true rfl rfl rfl (by decide +kernel)) (pi_enum (by rfl) (Txt.n_enumerate T) (pa_cons (pe_ix ix_list (pv 2) pe_int (fun _ _ => rfl)) pa_nil)) (blkOk_by (N := sc_lawN) (sc := (defScope s_law)) (by decide +kernel)) (fun _ _ _ _ _ => (pg_t2 K rfl (i := 7) (j := 13) rfl sc_law.nd rfl rfl (.inl rfl) (.inl rfl) (.inr rfl) (.inr rfl))) (fun _ _ _ _ _ => pts_nil) (fun _ _ _ _ _ => (pe_op op_add (pe_ix (ix_tupK K rfl) (pv 13) pe_int (fun _ _ => rfl)) (pe_op op_mul pe_int (pe_op op_sub (pe_ix (ix_listK K rfl) (pv 8) (pv 7) (fun _ _ => rfl)) (pe_ix (ix_tupK K rfl) (pv 13) pe_int (fun _ _ => rfl)))))))
      (pss_one (ps_ret (pe_and (pe_cmpR (op_eqD hr.units) (pe_kc (k_shares T) (by decide) hr (by rfl) pass0 (pa_cons (pv 11) (pa_cons (pv 12) pa_nil))) (pe_kc (k_shares T) (by decide) hr (by rfl) pass0 (pa_cons (pv 5) (pa_cons (pv 8) pa_nil))) (nomark _)) (pe_one (pe_kc (k_same_font T) (by decide) hr (by rfl) pass0 (pa_cons (pe_kc (k_law_instance T) (by decide) hr (by rfl) pass0 (pa_cons (pv 11) (pa_cons (pv 12) pa_nil))) (pa_cons (pv 9) pa_nil)))))))))))))))))))))), ?_⟩
  obtain ⟨a, ns, rfl, ha, q⟩ := h
  walk_at "go"
  refine ⟨a, ns, rfl, ha, fun D H1 eD s1 nd0 nsc hd1 => ?_⟩
  walk_at "go"
  refine ⟨D, rfl, hd1, fun vm H2 N as rs regs rows st2 hd2 hm mok => ?_⟩
  obtain ⟨m, rg, ax, rw', rfl, m1, m2, m3, m4, nd, hrs, nN, sN, hp⟩ := hm
  have hmL : SqL K H2 m [ax, .ref rg, rw'] := SqL.of (sN _ _ m1)
  have hrg : SqL K H2 rg (rs.map V.ref) := SqL.of (sN _ _ m2)
  have lrs := pair_len hp
  obtain ⟨ok1, ok2, ok3, ok4, ok5, ok6, ok7⟩ := mok
  obtain ⟨a1, a3, ao⟩ := id ok1
  walk_at "go"
  refine for_at rs.length (fun i σ' H' => DeckAt H' D ∧ Same N H' ∧ ∃ (regs' : List (List Ax)) (y3 y4 : Option V), σ' = [some (.ref a), some (.ref D.d), some (.ref m), y3, y4, none, none, none, none, none, none, none, none, none] ∧ Paired (RegAt K H') rs regs' ∧ (∀ r ∈ regs', r.length = as.length ∧ ∀ t ∈ r, FTent t) ∧ goodTo i regs')
    ⟨hd2, sN, regs, _, _, rfl, hp, ok4, fun j r h => absurd h (Nat.not_lt_zero j)⟩ (fun i σ' H' lt F => ?_) (fun σ' H' F => ?_)
  · obtain ⟨hd', sN', regs', y3, y4, rfl, hp', hf', hg'⟩ := F
    have hrg' : SqL K H' rg (rs.map V.ref) := SqL.of (sN' _ _ m2)
    have W := walk_list hrg'
    have lt' : i < (rs.map V.ref).length := by rw [List.length_map]; exact lt
    refine ⟨W.go _ _ (Same.refl _) lt', fun x H3 yy => ?_⟩
    obtain ⟨rfl, e0⟩ := yy
    have e := e0 _ hrg'
    obtain ⟨r, er⟩ := getI lt
    rw [List.getElem?_map, er] at e
    cases e
    have mr := List.mem_of_getElem? er
    obtain ⟨hr0, hr1, hr2⟩ := hrs r mr
    obtain ⟨reg, ereg, hreg⟩ := FontAt.stp.pair_at2 hp' er
    obtain ⟨lreg, freg⟩ := hf' reg (List.mem_of_getElem? ereg)
    walk_at "go"
    refine ⟨D, 64, rfl, by decide, by decide, hd', fun pk H3 p0 p1 st3 hd3 => ?_⟩
    walk_at "go"
    refine ⟨D, _, rfl, by omega, by omega, hd3, fun s0 H4 s00 s01 st4 hd4 => ?_⟩
    walk_at "go"
    intro u H5 s5 n5 e5
    obtain ⟨tvs, t1, t2⟩ := ((hreg.stp hr1 hd' st3).stp hr1 hd3 st4).same s5
    have ht5 : SqL K H5 r tvs := SqL.of t1
    have ltv := dps_mlen t2
    walk_at "go"
    refine ⟨D, _, rfl, by omega, by omega, hd4.same s5, fun j H6 j0 j1 st6 hd6 => ?_⟩
    have h6 := st6.1 _ _ hr1 t1
    have ud : u ≠ D.d := fun z => hd4.ne (by rw [← z]; exact n5)
    have e6 := st6.1 _ _ ud e5
    have j2 : j.toNat < tvs.length := by omega
    refine x_set h6 (ixN_at (Int.toNat_of_nonneg j0).symm j2) ?_
    walk_at "go"
    have sN6 : Same N H6 := same_stp ((same_stp (same_stp sN' nN st3) nN st4).trans s5) nN st6
    have du : Dp K H6 (.ref u) (t3D (s0, 1 + pk, 64)) := t3_dp (p := (s0, 1 + pk, 64)) (SqT.of e6)
    obtain ⟨ys, hy⟩ := (hd4.same s5).lst
    have t6 : DpAll K H6 tvs (reg.map t3D) := st6.out.dps (dps_era hy _ _ (flats_map flat_t3 _) t2)
    refine ⟨hd6.upd hr1 hr2, same_new sN6 hr0, regs'.set i (reg.set j.toNat (s0, 1 + pk, 64)), _, _, rfl, ?_, ft_upd hf' ⟨by rw [List.length_set]; exact lreg, fun t mt => ?_⟩, fun j' r' lj er' => ?_⟩
    · refine pair_upd hp' nd er (fun b mb nb reg' qb => ?_) ⟨tvs.set j.toNat (.ref u), upd_same, ?_⟩
      · obtain ⟨_, hb1, _⟩ := hrs b mb
        exact ((((qb.stp hb1 hd' st3).stp hb1 hd3 st4).same s5).stp hb1 (hd4.same s5) st6).upd nb h6
      · rw [List.map_set]
        have f1 : flats ((reg.map t3D).set j.toNat (t3D (s0, 1 + pk, 64))) = true := by
          rw [← List.map_set]
          exact flats_map flat_t3 _
        exact dps_flat h6 _ _ f1 (dps_set du _ t6)
    · rcases List.mem_or_eq_of_mem_set mt with mt | rfl
      · exact freg t mt
      · refine ⟨⟨by show -64 ≤ s0; omega, by show s0 ≤ 1 + pk; omega, by show 1 + pk ≤ 64; omega, by show (64 : Int) ≤ 64; decide⟩, fun z => ?_⟩
        have : s0 < 0 := z
        omega
    · by_cases hj : j' = i
      · subst hj
        rw [List.getElem?_set_self (by have := pair_len hp'; omega)] at er'
        cases er'
        refine ⟨(s0, 1 + pk, 64), List.mem_of_getElem? (List.getElem?_set_self (by omega)), by show 1 ≤ 1 + pk; omega, s00⟩
      · rw [List.getElem?_set_ne (fun z => hj z.symm)] at er'
        exact hg' j' r' (by omega) er'
  · obtain ⟨hd', sN', regs', y3, y4, rfl, hp', hf', hg'⟩ := F
    have hrg' : SqL K H' rg (rs.map V.ref) := SqL.of (sN' _ _ m2)
    refine ⟨⟨_, hrg', by rw [List.length_map]; exact Nat.le_refl _⟩, ?_⟩
    have lr' := pair_len hp'
    have fok : FOk ⟨rows, as, regs'⟩ := fok_of ⟨ok1, ok2, ok3, ok4, ok5, ok6, ok7⟩ (by omega) hf'
    have good : ∀ r ∈ regs', Good r := fun r m => by
      obtain ⟨j, hj, e⟩ := List.mem_iff_getElem.mp m
      exact hg' j r (by omega) (by rw [← e]; exact List.getElem?_eq_getElem hj)
    walk_at "go"
    refine ⟨_, ⟨rows, as, regs'⟩, rfl, made_dp m1 m2 m3 m4 sN' hp', fok, fun vf H3 s3 hF => ?_⟩
    have sN3 := sN'.trans s3
    have hd3 := hd'.same s3
    obtain ⟨pa, axs, rfl, hpa, hax⟩ := dp_lst m3
    have la := dps_mlen hax
    have hm3 : SqL K H3 m [.ref pa, .ref rg, rw'] := SqL.of (sN3 _ _ m1)
    have hpa3 := sN3.seq hpa
    walk_at "go"
    intro L nL
    refine lc_flat (K := K) ((as.map fun a => a.2.1).map PyData.int) (walk_list hpa3) (by rw [List.length_map, List.length_map, la]) (by omega) (flats_map flat_int _) nL (fun i x H4 lt s4 e P cl => ?_) (fun H4 s4 d4 => ?_)
    · obtain ⟨ax, ma, dax⟩ := dps_map hax e
      obtain ⟨t, rfl, ht⟩ := dp_t3 ((sN3.trans s4).dp dax)
      walk_at "go"
      refine ⟨rfl, ?_⟩
      walk_at "go"
      refine cl _ _ _ (Same.refl _) ?_ (.int _)
      rw [List.getElem?_map, List.getElem?_map, ma]
      rfl
    have inN : InAx as (as.map fun a => a.2.1) := in_normal fun a m => ⟨(ao a m).2.1, (ao a m).2.2.1⟩
    have ei : instM ⟨rows, as, regs'⟩ (sharesM as (as.map fun a => a.2.1)) = some (rows.map fun g => ⟨g.adv, g.out, []⟩) := inst_normal fok (shares_normal as) (sharesM_length inN.len) good
    walk_at "go"
    refine ⟨_, _, ⟨rows, as, regs'⟩, _, rfl, hF.same s4, d4, fok, inN, fun gs eg vN H5 s5 hN => ?_, fun en => by rw [ei] at en; cases en⟩
    cases Option.some.inj (eg.symm.trans ei)
    obtain ⟨fokN, ndl⟩ := inst_ok fok ei
    obtain ⟨an, nx, ngl, ngv, nc, nl, nfe, na, nr, nu, np, rfl, n0, n1, n2, _⟩ := id hN
    have sN5 := (sN3.trans s4).trans s5
    obtain ⟨pw, wxs, rfl, hpw, hwx⟩ := dp_lst m4
    have lw := dps_mlen hwx
    have hm5 : SqL K H5 m [.ref pa, .ref rg, .ref pw] := SqL.of (sN5 _ _ m1)
    have hpw5 := sN5.seq hpw
    have ln := pair_len n2
    walk_at "go"
    refine ⟨rfl, ?_⟩
    walk_at "go"
    refine ifF (by intro z; cases z) ?_
    walk_at "go"
    refine ⟨_, rfl, by omega, by omega, ?_⟩
    refine for_at wxs.length (fun i σ' H' => H' = H5 ∧ ∃ y7 : Option V, σ' = [some (.ref a), some (.ref D.d), some (.ref m), y3, y4, some vf, some (.ref an), y7, none, none, none, none, none, none]) ⟨rfl, _, rfl⟩ (fun i σ' H' lt F => ?_) (fun σ' H' F => ?_)
    · obtain ⟨rfl, y7, rfl⟩ := F
      refine ⟨by show i < ((wxs.length : Int)).toNat; omega, fun x H6 yy => ?_⟩
      obtain ⟨rfl, rfl⟩ := yy
      obtain ⟨g, eg⟩ := getI (l := rows) (i := i) (by omega)
      obtain ⟨vg, evg, hvg⟩ := pair_at (b := ⟨g.adv, g.out, []⟩) (i := i) n2 (by show (rows.map _)[i]? = _; rw [List.getElem?_map, eg]; rfl)
      obtain ⟨ag, gx, go1, gp, ga, gdv, gh, rfl, g0, g1, _⟩ := id hvg
      obtain ⟨wv, ewv⟩ := getI (l := wxs) (i := i) lt
      obtain ⟨g', eg', dwv⟩ := dps_map hwx ewv
      have egg : g' = g := Option.some.inj (eg'.symm.trans eg)
      subst egg
      obtain ⟨pr, rxs, rfl, hpr, hrx⟩ := dp_lst dwv
      obtain ⟨w0, r, rfl, e0, hrx⟩ := dps_cons hrx
      obtain ⟨w1, r, rfl, e1, hrx⟩ := dps_cons hrx
      obtain ⟨w2, r, rfl, e2, hrx⟩ := dps_cons hrx
      rw [dps_nil hrx] at hpr
      cases dp_int e0
      have hpr5 := sN5.seq hpr
      walk_at "go"
      have ix1 := atI_nat evg
      have ix2 := atI_nat ewv
      rw [show (0 : Int) + (i : Int) = (i : Int) from Int.zero_add _]
      refine x_ixL n1 ix1 ?_
      walk_at "go"
      refine x_ixL hpw5 ix2 ?_
      walk_at "go"
      refine ⟨_, _, g1, sN5.dp e1, lay_sh (by decide) (lay_out 0 g'.out), lay_sh (by decide) (lay_out 0 g'.out), ?_⟩
      rw [lay_refl (lay_out 0 g'.out)]
      walk_at "go"
      refine x_ixL n1 ix1 ?_
      walk_at "go"
      refine x_ixL hpw5 ix2 ?_
      walk_at "go"
      refine ifNF rfl ?_
      walk_at "go"
      exact ⟨rfl, _, rfl⟩
    obtain ⟨rfl, y7, rfl⟩ := F
    refine ⟨by show ((wxs.length : Int)).toNat ≤ wxs.length; omega, ?_⟩
    walk_at "go"
    intro p6 H6 s6 n6 e6
    walk_at "go"
    refine ⟨_, _, ⟨_, [], []⟩, [], rfl, hN.same s6, .lst (SqL.of e6) .nil, fokN, in_none, fun gs eg2 v7 H7 s7 hv7 => ?_, fun en => ?_⟩
    case' refine_2 =>
      have z : instM ⟨_, [], []⟩ [] = none := en
      rw [inst_same fokN ndl] at z
      cases z
    have eg3 : instM ⟨_, [], []⟩ [] = some gs := eg2
    cases Option.some.inj (eg3.symm.trans (inst_same fokN ndl))
    have s57 := s6.trans s7
    walk_at "go"
    refine ⟨_, _, ⟨_, [], []⟩, rfl, hv7, hN.same s57, fokN.g2, fun H8 s8 => ?_⟩
    walk_at "go"
    have s38 := ((s4.trans s5).trans s57).trans s8
    have sN8 := sN3.trans s38
    have hd8 := hd3.same s38
    have hm8 : SqL K H8 m [.ref pa, .ref rg, .ref pw] := SqL.of (sN8 _ _ m1)
    have sNe : Same N (era D.d H8) := fun b o e => era_of (fun z => by rw [z, nN] at e; cases e) (sN8 b o e)
    walk_at "go"
    refine ⟨D, _, as, rfl, hd8, sNe.dp m3, ok1, fun pl vpl H9 inP st9 hd9 dpl0 => ?_⟩
    have dpl := nw_sub.dp dpl0
    have hF9 := FontAt.stp hd8 (hF.same s38) st9
    have sN9 := same_stp sN8 nN st9
    have hp9 : Paired (RegAt K H9) rs regs' := pair_all (fun r hr reg qq => ((RegAt.same qq (s3.trans s38)).stp (hrs r hr).2.1 hd8 st9)) hp'
    have lpl := inP.len
    walk_at "go"
    refine ⟨_, _, ⟨rows, as, regs'⟩, pl, rfl, hF9, dpl, fok, inP, fun gs1 eg1 v1 HA sA h1 => ?_, fun en HA sA => ?_⟩
    case' refine_2 =>
      walk_at "go"
      refine ⟨rfl, ?_⟩
      walk_at "go"
      refine ifT rfl ?_
      walk_at "go"
      exact q _
    obtain ⟨fok1, nd1⟩ := inst_ok fok eg1
    obtain ⟨a1', _, _, _, _, _, _, _, _, _, _, rfl, _⟩ := id h1
    walk_at "go"
    refine ⟨rfl, ?_⟩
    walk_at "go"
    refine ifF (by intro z; cases z) ?_
    walk_at "go"
    intro pB HB sB nB eB
    walk_at "go"
    refine ⟨_, _, ⟨gs1, [], []⟩, [], rfl, h1.same sB, .lst (SqL.of eB) .nil, fok1, in_none, fun gs eg2 vC HC sC hC => ?_, fun en => ?_⟩
    case' refine_2 =>
      have z : instM ⟨gs1, [], []⟩ [] = none := en
      rw [inst_same fok1 nd1] at z
      cases z
    have eg4 : instM ⟨gs1, [], []⟩ [] = some gs := eg2
    cases Option.some.inj (eg4.symm.trans (inst_same fok1 nd1))
    have sAC := sB.trans sC
    walk_at "go"
    refine ⟨_, _, ⟨gs1, [], []⟩, rfl, hC, h1.same sAC, fok1.g2, fun HD sD => ?_⟩
    have s9D := sA.trans (sAC.trans sD)
    have sND := sN9.trans s9D
    have hmD : SqL K HD m [.ref pa, .ref rg, .ref pw] := SqL.of (sND _ _ m1)
    have hpaD := sND.seq hpa
    walk_at "go"
    intro L2 nL2
    refine lc_flat (K := K) ((as.map wideA).map t3D) (walk_list hpaD) (by rw [List.length_map, List.length_map, la]) (by omega) (flats_map flat_t3 _) nL2 (fun i x H4 lt s4 e P cl => ?_) (fun HE sE dW => ?_)
    · obtain ⟨ax, ma, dax⟩ := dps_map hax e
      obtain ⟨t, rfl, ht⟩ := dp_t3 ((sND.trans s4).dp dax)
      walk_at "go"
      refine ⟨rfl, ?_⟩
      walk_at "go"
      refine ⟨_, _, rfl, rfl, .inl ⟨by decide, by decide⟩, ?_⟩
      walk_at "go"
      refine ⟨_, _, rfl, rfl, .inl ⟨by decide, by decide⟩, ?_⟩
      walk_at "go"
      intro u Hu su nu eu
      refine cl _ _ _ su ?_ (t3_dp (p := wideA ax) (SqT.of eu))
      rw [List.getElem?_map, List.getElem?_map, ma]
      rfl
    have sNE := sND.trans sE
    have hmE : SqL K HE m [.ref pa, .ref rg, .ref pw] := SqL.of (sNE _ _ m1)
    have hp9E : Paired (RegAt K HE) rs regs' := pair_mono (fun _ _ qq => qq.same (s9D.trans sE)) hp9
    walk_at "go"
    intro pG HG sG nG eG
    walk_at "go"
    have dOther : Dp K HG (.ref pG) (madeD (as.map wideA) regs' rows) := .lst (SqL.of eG) (.cons (sG.dp dW) (.cons (.lst (sG.seq (SqL.of (sNE _ _ m2))) (sG.dps (regs_dp hp9E))) (.cons ((sNE.trans sG).dp m4) .nil)))
    have fokW := fok_wide ok1 fok
    refine ⟨_, ⟨rows, as.map wideA, regs'⟩, rfl, dOther, fokW, fun vo HH sH hO => ?_⟩
    have s9H := s9D.trans (sE.trans (sG.trans sH))
    have sNH := sN9.trans s9H
    have hmH : SqL K HH m [.ref pa, .ref rg, .ref pw] := SqL.of (sNH _ _ m1)
    have hpaH := sNH.seq hpa
    obtain ⟨ppl, ep, hpl⟩ := dp_ints (s9H.dp dpl)
    subst ep
    walk_at "go"
    intro L3 nL3
    have lfar : (farL as pl).length = as.length := by unfold farL; rw [List.length_zipWith]; omega
    refine lc_flat (K := K) ((farL as pl).map PyData.int) (walk_enum hpaH) (by rw [List.length_map, lfar, la]) (by omega) (flats_map flat_int _) nL3 (fun i x H4 lt s4 e P cl => ?_) (fun HI sI dFar => ?_)
    · obtain ⟨t, x1, rfl, ht, e⟩ := e
      obtain ⟨ax, ma, dax⟩ := dps_map hax e
      obtain ⟨t1, rfl, ht1⟩ := dp_t3 ((sNH.trans s4).dp dax)
      have ht := SqT.of (K := K) ht
      obtain ⟨n, en⟩ := getI (l := pl) (i := i) (by omega)
      have hpl4 := s4.seq hpl
      walk_at "go"
      refine ⟨rfl, ?_⟩
      walk_at "go"
      refine x_ixL hpl4 (atI_nat (v := .int n) (by rw [List.getElem?_map, en]; rfl)) ?_
      walk_at "go"
      refine ⟨_, _, rfl, rfl, .inl ⟨by decide, by decide⟩, ?_⟩
      walk_at "go"
      refine cl _ _ _ (Same.refl _) ?_ (.int _)
      rw [List.getElem?_map]
      unfold farL
      rw [List.getElem?_zipWith, ma, en]
      rfl
    have s9I := s9H.trans sI
    have inF := in_far inP
    have eS := shares_far as pl inP
    walk_at "go"
    refine ⟨_, _, ⟨rows, as.map wideA, regs'⟩, farL as pl, rfl, hO.same sI, dFar, fokW.ax, fokW.a3, inF, fun v8 HJ sJ dS1 => ?_⟩
    walk_at "go"
    refine ⟨_, _, ⟨rows, as, regs'⟩, pl, rfl, hF9.same (s9I.trans sJ), (s9I.trans sJ).dp dpl, fok.ax, fok.a3, inP, fun v9 HK sK dS2 => ?_⟩
    have dS1 : Dp K HK v8 (.list ((sharesM as pl).map pD)) := by
      have z := sK.dp dS1
      have z2 : Dp K HK v8 (.list ((sharesM (as.map wideA) (farL as pl)).map pD)) := z
      rw [eS] at z2
      exact z2
    have lyS : lay 2 (.list ((sharesM as pl).map pD)) = true := by
      simp only [lay]
      exact all_map lay_pD _
    refine ⟨_, _, dS1, dS2, lay_sh (by decide) lyS, lay_sh (by decide) lyS, ?_⟩
    rw [lay_refl lyS]
    walk_at "go"
    have eI : instM ⟨rows, as.map wideA, regs'⟩ (sharesM (as.map wideA) (farL as pl)) = some gs1 := by
      rw [eS, ← eg1]
      exact inst_regs (f := ⟨rows, as, regs'⟩) (sharesM as pl) rfl rfl
    have sIK := sJ.trans sK
    refine ⟨_, _, ⟨rows, as.map wideA, regs'⟩, farL as pl, rfl, hO.same (sI.trans sIK), sIK.dp dFar, fokW, inF, fun gs eg5 vL HL sL hL => ?_, fun en => ?_⟩
    case' refine_2 =>
      have z : instM ⟨rows, as.map wideA, regs'⟩ (sharesM (as.map wideA) (farL as pl)) = none := en
      rw [eI] at z
      cases z
    have eg6 : instM ⟨rows, as.map wideA, regs'⟩ (sharesM (as.map wideA) (farL as pl)) = some gs := eg5
    cases Option.some.inj (eg6.symm.trans eI)
    walk_at "go"
    exact ⟨_, _, ⟨gs1, [], []⟩, rfl, hL, h1.same ((sAC.trans (sD.trans (sE.trans (sG.trans sH)))).trans (sI.trans (sIK.trans sL))), fok1.g2, fun H' _ => q H'⟩
end
end Fl
set_option Elab.async false
set_option linter.all false
set_option maxRecDepth 100000
set_option maxHeartbeats 4000000
open PySem PySem.W PySem.Calls PyProof.Rows
theorem PySem.Challenge.cw_fleuron_k43_whole_instances_holds : PySem.Challenge.rw_fleuron_k43_whole_instances.Holds := by
  refine Fl.head_done 10 ⟨rfl, by decide, by decide⟩ L2.CX0 (fun _ _ _ _ z => z) ?_
  intro w mg fa h K hK T hmg
  obtain ⟨fd, F⟩ := T.f_law
  have e : fa = He.ga K ("law" : PySem.Str) := by
    have g := T.g_law
    rw [hmg] at g
    exact Value.ref.inj (Option.some.inj g)
  subst e
  refine ⟨fd, Fl.spLaw K, fun s u => F.bindsA (ps := ["_law_script"]) (fun _ _ _ _ _ _ us hl => match us, hl with | [_], _ => rfl) s [u] rfl, fun H a ns hl ho hs => ⟨a, ns, rfl, hs, fun H' => rfl⟩, fun base hb hn => Fl.ok_law T F⟩
