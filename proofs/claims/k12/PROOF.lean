import PyProof.Rows.All
import Wide.All
import OpenK.AllK
import Wide.FinOn
import KE.KStateDown
import HandS.ForMost
import HandS.More
import HandS.Exc
import HandS.Defaults
import HandS.Property
import HandS.HeadHook1
import HandS.HeadHook2
import PySem.Challenge.RW_unheard_k12_whole_chances_and_draws
import HandS.Head0
import HandS.Head1
import HandS.Head2
import HandS.HeadEnd
import HandS.Walk
import HandS.TupAny
import HandS.TupMul
import HandS.IsInst
import HandS.Style
import HandS.Deep
import HandS.DictComp
import HandS.ListItems
import KE.GoesEnum
import KE.KDictSum
import KE.KDictList
import KE.DatumOrd
import HandS.Star
import HandS.Conv
import KE.KeyNested
import KE.SortData
import KE.DataEq
import KE.KDictKeyed
import KE.KDictDisplayH
import KE.KDictCopyH
import HandS.Sort
import KE.KDictZip
import KE.KItemsList
set_option Elab.async false
set_option linter.all false
set_option maxRecDepth 100000
set_option maxHeartbeats 4000000
/-! The text by places: each def's statement, its datum for the head; the facts that the defs lean on. -/
namespace U
open PySem L2
def tops (i : Nat) : Stmt := PySem.Challenge.pw_unheard_k12_whole_chances_and_draws.main.body.getD i (.Pass ⟨0, 0, 0, 0⟩)
abbrev s_is_integer : Stmt := tops 14
abbrev s_is_number : Stmt := tops 15
abbrev s_is_list : Stmt := tops 16
abbrev s_is_name : Stmt := tops 17
abbrev s_need_kind : Stmt := tops 19
abbrev s_first_standing : Stmt := tops 21
abbrev s_is_item : Stmt := tops 22
abbrev s_counts_in : Stmt := tops 23
abbrev s_is_standing : Stmt := tops 24
abbrev s_need_standing : Stmt := tops 25
abbrev s_old_songs : Stmt := tops 26
abbrev s_ages_in : Stmt := tops 27
abbrev s_barred_kinds : Stmt := tops 28
abbrev s_told_weights : Stmt := tops 29
abbrev s_all_weights : Stmt := tops 30
abbrev s_places : Stmt := tops 31
abbrev s_is_place : Stmt := tops 32
abbrev s_need_place : Stmt := tops 33
abbrev s_fraction : Stmt := tops 34
abbrev s_weight : Stmt := tops 35
abbrev s_chance : Stmt := tops 36
abbrev s_can_draw : Stmt := tops 37
abbrev s_drawn : Stmt := tops 38
abbrev s_is_step : Stmt := tops 39
abbrev s_behind : Stmt := tops 40
abbrev s_steps_from : Stmt := tops 41
abbrev s_wrong_step : Stmt := tops 43
abbrev s_is_course : Stmt := tops 44
abbrev s_led_to : Stmt := tops 45
abbrev s_ways_to : Stmt := tops 46
abbrev s_standings_of : Stmt := tops 47
abbrev s_are_weights : Stmt := tops 51
abbrev s_l_begin : Stmt := tops 54
abbrev s_l_take : Stmt := tops 55
abbrev s_l_pick : Stmt := tops 56
abbrev s_l_mixed : Stmt := tops 57
abbrev s_l_some_names : Stmt := tops 58
abbrev s_l_drawn_case : Stmt := tops 59
abbrev s_l_rule_of : Stmt := tops 60
abbrev s_l_songs_in : Stmt := tops 61
abbrev s_l_any_standing : Stmt := tops 62
abbrev s_l_rows_at : Stmt := tops 63
abbrev s_l_first_one : Stmt := tops 64
abbrev s_l_walk : Stmt := tops 65
abbrev s_l_drawn_on : Stmt := tops 66
abbrev s_l_sums_right : Stmt := tops 67
abbrev s_l_named_right : Stmt := tops 68
abbrev s_l_bars_right : Stmt := tops 69
abbrev s_q_law : Stmt := tops 70
abbrev s_Songs_init : Stmt := inClass (tops 18) 0
abbrev s_Songs_getitem : Stmt := inClass (tops 18) 3
abbrev s_Songs_contains : Stmt := inClass (tops 18) 6
abbrev s_Rule_init : Stmt := inClass (tops 52) 0
abbrev s_Rule_barring : Stmt := inClass (tops 52) 5
abbrev s_Songs_numbers : Stmt := inClass (tops 18) 2
abbrev s_Rule_cap : Stmt := inClass (tops 52) 1
abbrev s_Rule_weights : Stmt := inClass (tops 52) 2
abbrev s_Rule_skipped : Stmt := inClass (tops 52) 3
abbrev s_Rule_spread : Stmt := inClass (tops 52) 4
def d_is_integer : He.DefD := ⟨("is_integer", none), "is_integer", "is_integer", defArgs s_is_integer, defBody s_is_integer, defScope s_is_integer, [], []⟩
def d_is_number : He.DefD := ⟨("is_number", none), "is_number", "is_number", defArgs s_is_number, defBody s_is_number, defScope s_is_number, [], []⟩
def d_is_list : He.DefD := ⟨("is_list", none), "is_list", "is_list", defArgs s_is_list, defBody s_is_list, defScope s_is_list, [], []⟩
def d_is_name : He.DefD := ⟨("is_name", none), "is_name", "is_name", defArgs s_is_name, defBody s_is_name, defScope s_is_name, [], []⟩
def d_need_kind : He.DefD := ⟨("need_kind", none), "need_kind", "need_kind", defArgs s_need_kind, defBody s_need_kind, defScope s_need_kind, [], []⟩
def d_first_standing : He.DefD := ⟨("first_standing", none), "first_standing", "first_standing", defArgs s_first_standing, defBody s_first_standing, defScope s_first_standing, [], []⟩
def d_is_item : He.DefD := ⟨("is_item", none), "is_item", "is_item", defArgs s_is_item, defBody s_is_item, defScope s_is_item, [], []⟩
def d_counts_in : He.DefD := ⟨("counts_in", none), "counts_in", "counts_in", defArgs s_counts_in, defBody s_counts_in, defScope s_counts_in, [], []⟩
def d_is_standing : He.DefD := ⟨("is_standing", none), "is_standing", "is_standing", defArgs s_is_standing, defBody s_is_standing, defScope s_is_standing, [], []⟩
def d_need_standing : He.DefD := ⟨("need_standing", none), "need_standing", "need_standing", defArgs s_need_standing, defBody s_need_standing, defScope s_need_standing, [], []⟩
def d_old_songs : He.DefD := ⟨("old_songs", none), "old_songs", "old_songs", defArgs s_old_songs, defBody s_old_songs, defScope s_old_songs, [], []⟩
def d_ages_in : He.DefD := ⟨("ages_in", none), "ages_in", "ages_in", defArgs s_ages_in, defBody s_ages_in, defScope s_ages_in, [], []⟩
def d_barred_kinds : He.DefD := ⟨("barred_kinds", none), "barred_kinds", "barred_kinds", defArgs s_barred_kinds, defBody s_barred_kinds, defScope s_barred_kinds, [], []⟩
def d_told_weights : He.DefD := ⟨("told_weights", none), "told_weights", "told_weights", defArgs s_told_weights, defBody s_told_weights, defScope s_told_weights, [], []⟩
def d_all_weights : He.DefD := ⟨("all_weights", none), "all_weights", "all_weights", defArgs s_all_weights, defBody s_all_weights, defScope s_all_weights, [], []⟩
def d_places : He.DefD := ⟨("places", none), "places", "places", defArgs s_places, defBody s_places, defScope s_places, [], []⟩
def d_is_place : He.DefD := ⟨("is_place", none), "is_place", "is_place", defArgs s_is_place, defBody s_is_place, defScope s_is_place, [], []⟩
def d_need_place : He.DefD := ⟨("need_place", none), "need_place", "need_place", defArgs s_need_place, defBody s_need_place, defScope s_need_place, [], []⟩
def d_fraction : He.DefD := ⟨("fraction", none), "fraction", "fraction", defArgs s_fraction, defBody s_fraction, defScope s_fraction, [], []⟩
def d_weight : He.DefD := ⟨("weight", none), "weight", "weight", defArgs s_weight, defBody s_weight, defScope s_weight, [], []⟩
def d_chance : He.DefD := ⟨("chance", none), "chance", "chance", defArgs s_chance, defBody s_chance, defScope s_chance, [], []⟩
def d_can_draw : He.DefD := ⟨("can_draw", none), "can_draw", "can_draw", defArgs s_can_draw, defBody s_can_draw, defScope s_can_draw, [], []⟩
def d_drawn : He.DefD := ⟨("drawn", none), "drawn", "drawn", defArgs s_drawn, defBody s_drawn, defScope s_drawn, [], []⟩
def d_is_step : He.DefD := ⟨("is_step", none), "is_step", "is_step", defArgs s_is_step, defBody s_is_step, defScope s_is_step, [], []⟩
def d_behind : He.DefD := ⟨("behind", none), "behind", "behind", defArgs s_behind, defBody s_behind, defScope s_behind, [], []⟩
def d_steps_from : He.DefD := ⟨("steps_from", none), "steps_from", "steps_from", defArgs s_steps_from, defBody s_steps_from, defScope s_steps_from, [], []⟩
def d_wrong_step : He.DefD := ⟨("wrong_step", none), "wrong_step", "wrong_step", defArgs s_wrong_step, defBody s_wrong_step, defScope s_wrong_step, [], []⟩
def d_is_course : He.DefD := ⟨("is_course", none), "is_course", "is_course", defArgs s_is_course, defBody s_is_course, defScope s_is_course, [], []⟩
def d_led_to : He.DefD := ⟨("led_to", none), "led_to", "led_to", defArgs s_led_to, defBody s_led_to, defScope s_led_to, [], []⟩
def d_ways_to : He.DefD := ⟨("ways_to", none), "ways_to", "ways_to", defArgs s_ways_to, defBody s_ways_to, defScope s_ways_to, [], []⟩
def d_standings_of : He.DefD := ⟨("standings_of", none), "standings_of", "standings_of", defArgs s_standings_of, defBody s_standings_of, defScope s_standings_of, [], []⟩
def d_are_weights : He.DefD := ⟨("are_weights", none), "are_weights", "are_weights", defArgs s_are_weights, defBody s_are_weights, defScope s_are_weights, [], []⟩
def d_l_begin : He.DefD := ⟨("_law_begin", none), "_law_begin", "_law_begin", defArgs s_l_begin, defBody s_l_begin, defScope s_l_begin, [], []⟩
def d_l_take : He.DefD := ⟨("_law_take", none), "_law_take", "_law_take", defArgs s_l_take, defBody s_l_take, defScope s_l_take, [], []⟩
def d_l_pick : He.DefD := ⟨("_law_pick", none), "_law_pick", "_law_pick", defArgs s_l_pick, defBody s_l_pick, defScope s_l_pick, [], []⟩
def d_l_mixed : He.DefD := ⟨("_law_mixed", none), "_law_mixed", "_law_mixed", defArgs s_l_mixed, defBody s_l_mixed, defScope s_l_mixed, [], []⟩
def d_l_some_names : He.DefD := ⟨("_law_some_names", none), "_law_some_names", "_law_some_names", defArgs s_l_some_names, defBody s_l_some_names, defScope s_l_some_names, [], []⟩
def d_l_drawn_case : He.DefD := ⟨("_law_drawn_case", none), "_law_drawn_case", "_law_drawn_case", defArgs s_l_drawn_case, defBody s_l_drawn_case, defScope s_l_drawn_case, [], []⟩
def d_l_rule_of : He.DefD := ⟨("_law_rule_of", none), "_law_rule_of", "_law_rule_of", defArgs s_l_rule_of, defBody s_l_rule_of, defScope s_l_rule_of, [], []⟩
def d_l_songs_in : He.DefD := ⟨("_law_songs_in", none), "_law_songs_in", "_law_songs_in", defArgs s_l_songs_in, defBody s_l_songs_in, defScope s_l_songs_in, [], []⟩
def d_l_any_standing : He.DefD := ⟨("_law_any_standing", none), "_law_any_standing", "_law_any_standing", defArgs s_l_any_standing, defBody s_l_any_standing, defScope s_l_any_standing, [], []⟩
def d_l_rows_at : He.DefD := ⟨("_law_rows_at", none), "_law_rows_at", "_law_rows_at", defArgs s_l_rows_at, defBody s_l_rows_at, defScope s_l_rows_at, [], []⟩
def d_l_first_one : He.DefD := ⟨("_law_first_one", none), "_law_first_one", "_law_first_one", defArgs s_l_first_one, defBody s_l_first_one, defScope s_l_first_one, [], []⟩
def d_l_walk : He.DefD := ⟨("_law_walk", none), "_law_walk", "_law_walk", defArgs s_l_walk, defBody s_l_walk, defScope s_l_walk, [], []⟩
def d_l_drawn_on : He.DefD := ⟨("_law_drawn_on", none), "_law_drawn_on", "_law_drawn_on", defArgs s_l_drawn_on, defBody s_l_drawn_on, defScope s_l_drawn_on, [], []⟩
def d_l_sums_right : He.DefD := ⟨("_law_sums_right", none), "_law_sums_right", "_law_sums_right", defArgs s_l_sums_right, defBody s_l_sums_right, defScope s_l_sums_right, [], []⟩
def d_l_named_right : He.DefD := ⟨("_law_named_right", none), "_law_named_right", "_law_named_right", defArgs s_l_named_right, defBody s_l_named_right, defScope s_l_named_right, [], []⟩
def d_l_bars_right : He.DefD := ⟨("_law_bars_right", none), "_law_bars_right", "_law_bars_right", defArgs s_l_bars_right, defBody s_l_bars_right, defScope s_l_bars_right, [], []⟩
def d_q_law : He.DefD := ⟨("law", none), "law", "law", defArgs s_q_law, defBody s_q_law, defScope s_q_law, [], []⟩
def d_Songs_init : He.DefD := ⟨("Songs", some "__init__"), "__init__", "Songs.__init__", defArgs s_Songs_init, defBody s_Songs_init, defScope s_Songs_init, [], []⟩
def d_Songs_getitem : He.DefD := ⟨("Songs", some "__getitem__"), "__getitem__", "Songs.__getitem__", defArgs s_Songs_getitem, defBody s_Songs_getitem, defScope s_Songs_getitem, [], []⟩
def d_Songs_contains : He.DefD := ⟨("Songs", some "__contains__"), "__contains__", "Songs.__contains__", defArgs s_Songs_contains, defBody s_Songs_contains, defScope s_Songs_contains, [], []⟩
def d_Rule_init : He.DefD := ⟨("Rule", some "__init__"), "__init__", "Rule.__init__", defArgs s_Rule_init, defBody s_Rule_init, defScope s_Rule_init, [.int 0], []⟩
def d_Rule_barring : He.DefD := ⟨("Rule", some "barring"), "barring", "Rule.barring", defArgs s_Rule_barring, defBody s_Rule_barring, defScope s_Rule_barring, [], []⟩
def fnL1 : List He.DefD := [d_is_integer, d_is_number, d_is_list, d_is_name, d_need_kind, d_first_standing, d_is_item, d_counts_in, d_is_standing, d_need_standing, d_old_songs, d_ages_in, d_barred_kinds, d_told_weights, d_all_weights, d_places, d_is_place, d_need_place, d_fraction, d_weight, d_chance, d_can_draw, d_drawn, d_is_step, d_behind, d_steps_from, d_wrong_step, d_is_course, d_led_to, d_ways_to]
def fnL2 : List He.DefD := [d_standings_of, d_are_weights, d_l_begin, d_l_take, d_l_pick, d_l_mixed, d_l_some_names, d_l_drawn_case, d_l_rule_of, d_l_songs_in, d_l_any_standing, d_l_rows_at, d_l_first_one, d_l_walk, d_l_drawn_on, d_l_sums_right, d_l_named_right, d_l_bars_right, d_q_law, d_Songs_init, d_Songs_getitem, d_Songs_contains, d_Rule_init, d_Rule_barring]
def fnL : List He.DefD := fnL1 ++ fnL2
def faL1 : List He.Fa := [.glo "is_integer", .glo "is_number", .glo "is_list", .glo "is_name", .glo "need_kind", .glo "first_standing", .glo "is_item", .glo "counts_in", .glo "is_standing", .glo "need_standing", .glo "old_songs", .glo "ages_in", .glo "barred_kinds", .glo "told_weights", .glo "all_weights", .glo "places", .glo "is_place", .glo "need_place", .glo "fraction", .glo "weight", .glo "chance", .glo "can_draw", .glo "drawn", .glo "is_step", .glo "behind", .glo "steps_from", .glo "wrong_step", .glo "is_course", .glo "led_to", .glo "ways_to", .glo "standings_of", .glo "are_weights", .glo "_law_begin", .glo "_law_take", .glo "_law_pick", .glo "_law_mixed", .glo "_law_some_names", .glo "_law_drawn_case"]
def faL2 : List He.Fa := [.glo "_law_rule_of", .glo "_law_songs_in", .glo "_law_any_standing", .glo "_law_rows_at", .glo "_law_first_one", .glo "_law_walk", .glo "_law_drawn_on", .glo "_law_sums_right", .glo "_law_named_right", .glo "_law_bars_right", .glo "law", .glo "Songs", .glo "Rule", .free "isinstance", .free "len", .free "all", .free "any", .free "sum", .free "sorted", .free "dict", .free "list", .free "tuple", .free "int", .free "str", .free "bool", .free "max", .free "min", .free "abs", .free "divmod", .free "range", .free "enumerate", .free "zip", .int "MOST_KINDS" 3, .int "LONGEST_NAME" 8, .str "LETTERS" "abcdefghijklmnopqrstuvwxyz", .int "MOST_CAP" 4, .int "MOST_WEIGHT" 9, .cls "Songs"]
def faL3 : List He.Fa := [.mkr "Songs", .noat "Songs" "s_numbers", .meth "Songs" "__getitem__", .meth "Songs" "__contains__", .cls "Rule", .mkr "Rule", .noat "Rule" "r_weights", .noat "Rule" "r_skipped", .noat "Rule" "r_spread", .meth "Rule" "barring"]
def faL : List He.Fa := faL1 ++ (faL2 ++ faL3)
/-! ### getters of properties: where they stand, what is asked of them -/
def getterAt (K : PySem.W.Frag) (C f : Str) : Addr := match PySem.W.recIn K (He.ma K (He.ga K C) f) "property" with
  | some (.ref g :: _) => g
  | _ => 0
structure Gt where
  cls : Str
  nam : Str
  qual : Str
  params : Arguments
  body : List Stmt
  scope : Scope
def fnSeen (K : PySem.W.Frag) (a : Addr) : He.FnW := match K.lookup a with
  | some ⟨_, _, .func fd, _⟩ => some (fd.name, fd.qualname, fd.params, fd.body, fd.scope, fd.globals, fd.closure, fd.builtins)
  | _ => none
def Gt.want (d : Gt) : He.FnW := some (d.nam, d.qual, d.params, .stmts d.body, d.scope, mainGlobals, [], builtinsNs)
def codeNone (K : PySem.W.Frag) (a : Addr) (q : Str) : Bool := match K.lookup a with
  | some ⟨_, _, .func fd, _⟩ => PySem.W.codeIn K fd.code q && (He.dflB K fd.defaults [] && He.kwdB K fd.kwdefaults [])
  | _ => false
def Gt.good (K : PySem.W.Frag) (d : Gt) : Bool :=
  (He.eqO (PySem.W.findIn K (.ref (He.ga K d.cls)) d.nam) (some (some (.ref (He.ma K (He.ga K d.cls) d.nam)))) && He.eqO (PySem.W.specialIn K (.ref (He.ma K (He.ga K d.cls) d.nam)) "__get__") (some (some (.builtin "property.__get__")))) &&
  ((decide (PySem.W.takesIn K (.ref (He.ma K (He.ga K d.cls) d.nam)) = some true) && (match PySem.W.recIn K (He.ma K (He.ga K d.cls) d.nam) "property" with
    | some (.ref _ :: _) => true
    | _ => false)) && (PySem.W.keepIn K (.ref (getterAt K d.cls d.nam)) && codeNone K (getterAt K d.cls d.nam) d.qual))
theorem Gt.is_prop {K : PySem.W.Frag} {d : Gt} (h : d.good K = true) : PropOf K (He.ga K d.cls) d.nam (He.ma K (He.ga K d.cls) d.nam) (getterAt K d.cls d.nam) := by
  unfold Gt.good at h
  simp only [Bool.and_eq_true] at h
  obtain ⟨⟨h1, h2⟩, ⟨h3, h4⟩, _⟩ := h
  refine ⟨He.eqO_ok h1, He.eqO_ok h2, of_decide_eq_true h3, ?_⟩
  unfold getterAt
  split at h4
  · rename_i g r e
    rw [e]
    exact ⟨r, rfl⟩
  · cases h4
theorem Gt.is_fn {K : PySem.W.Frag} {d : Gt} (h : d.good K = true) (e : fnSeen K (getterAt K d.cls d.nam) = d.want) : ∃ fd, FunD K d.nam d.qual d.params d.body d.scope [] [] (getterAt K d.cls d.nam) fd := by
  unfold Gt.good at h
  simp only [Bool.and_eq_true] at h
  obtain ⟨_, _, kp, hc⟩ := h
  unfold codeNone at hc
  unfold fnSeen at e
  cases q : K.lookup (getterAt K d.cls d.nam) with
  | none =>
    rw [q] at hc
    cases hc
  | some o =>
    obtain ⟨oc, od, dt, osl⟩ := o
    rw [q] at hc e
    cases dt with
    | func fd =>
      obtain ⟨n1, n2, n3, n4, n5, n6, n7, n8, n9, n10, n11, n12, n13, n14, n15⟩ := fd
      have e2 : (some (n1, n2, n3, n4, n5, n6, n7, n15) : He.FnW) = some (d.nam, d.qual, d.params, .stmts d.body, d.scope, mainGlobals, [], builtinsNs) := e
      simp only [Option.some.injEq, Prod.mk.injEq] at e2
      obtain ⟨h1, h2, h3, h4, h5, h6, h7, h8⟩ := e2
      subst h1 h2 h3 h4 h5 h6 h7 h8
      have c3 : (PySem.W.codeIn K n13 d.qual && (He.dflB K n8 [] && He.kwdB K n9 [])) = true := hc
      simp only [Bool.and_eq_true] at c3
      exact ⟨_, ⟨oc, od, n8, n9, n10, n11, n12, n13, n14, osl, rfl, q, c3.1, He.dflB_ok c3.2.1, He.kwdB_ok c3.2.2⟩, kp⟩
    | _ => cases hc
def g_Songs_numbers : Gt := ⟨"Songs", "numbers", "Songs.numbers", defArgs s_Songs_numbers, defBody s_Songs_numbers, defScope s_Songs_numbers⟩
def g_Rule_cap : Gt := ⟨"Rule", "cap", "Rule.cap", defArgs s_Rule_cap, defBody s_Rule_cap, defScope s_Rule_cap⟩
def g_Rule_weights : Gt := ⟨"Rule", "weights", "Rule.weights", defArgs s_Rule_weights, defBody s_Rule_weights, defScope s_Rule_weights⟩
def g_Rule_skipped : Gt := ⟨"Rule", "skipped", "Rule.skipped", defArgs s_Rule_skipped, defBody s_Rule_skipped, defScope s_Rule_skipped⟩
def g_Rule_spread : Gt := ⟨"Rule", "spread", "Rule.spread", defArgs s_Rule_spread, defBody s_Rule_spread, defScope s_Rule_spread⟩
def gtL : List Gt := [g_Songs_numbers, g_Rule_cap, g_Rule_weights, g_Rule_skipped, g_Rule_spread]
/-- what own __getitem__ and __contains__ ask besides -/
def moreB (K : PySem.W.Frag) : Bool := PySem.W.noSeq K (He.ga K "Songs") && (PySem.W.fnIn K (He.ma K (He.ga K "Songs") "__getitem__") && PySem.W.fnIn K (He.ma K (He.ga K "Songs") "__contains__"))
abbrev AlU : Type := He.AlD × (Bool × List He.FnW)
def seeU (K : PySem.W.Frag) : AlU := (He.obsD faL fnL K, (gtL.all (fun d => d.good K) && moreB K, gtL.map fun d => fnSeen K (getterAt K d.cls d.nam)))
def valU : AlU := (He.valD fnL, (true, gtL.map Gt.want))
def SaysU (K : PySem.W.Frag) : Prop := seeU K = valU
def obsU (n : Nat) (g : Addr → Option Obj) : AlU := seeU (He.frG g (He.asD g n))
def hookU (n : Nat) : PySem.W.Hook where
  α := AlU
  obs := fun s => obsU n s.heap.get?
  val := fun _ => valU
  says := fun _ h => ∃ K : PySem.W.Frag, K.In h ∧ SaysU K
  of := fun _ _ e => ⟨_, He.frG_in, e⟩
  keeps := fun _ _ _ ⟨K, hK, c⟩ k => ⟨K, PySem.W.Frag.In.keeps hK k, c⟩
theorem obsU_eq {n : Nat} {g : Addr → Option Obj} {s : Shared} (h : ∀ a, g a = s.heap.get? a) : obsU n g = (hookU n).obs s := by
  have e : g = s.heap.get? := funext h
  rw [e] <;> rfl
section
variable {K : PySem.W.Frag}
theorem SaysU.d (c : SaysU K) : He.SaysD faL fnL K := congrArg (fun z : AlU => z.1) c
theorem SaysU.gt (c : SaysU K) (i : Nat) {d : Gt} (h : gtL[i]? = some d) : d.good K = true ∧ fnSeen K (getterAt K d.cls d.nam) = d.want := by
  have e1 : (gtL.all (fun d => d.good K) && moreB K) = true := congrArg (fun z : AlU => z.2.1) c
  have e2 : gtL.map (fun d => fnSeen K (getterAt K d.cls d.nam)) = gtL.map Gt.want := congrArg (fun z : AlU => z.2.2) c
  refine ⟨List.all_eq_true.mp (Bool.and_eq_true_iff.mp e1).1 d (List.mem_of_getElem? h), ?_⟩
  have e3 : (gtL.map fun d => fnSeen K (getterAt K d.cls d.nam))[i]? = (gtL.map Gt.want)[i]? := by rw [e2]
  rw [List.getElem?_map, List.getElem?_map, h] at e3
  exact Option.some.inj e3
theorem SaysU.more (c : SaysU K) : moreB K = true := by
  have e1 : (gtL.all (fun d => d.good K) && moreB K) = true := congrArg (fun z : AlU => z.2.1) c
  exact (Bool.and_eq_true_iff.mp e1).2
end
/-! ### the facts, one row each -/
/-- a def at the module's name x -/
structure Dn (K : PySem.W.Frag) (mg : Str → Option Value) (x : Str) (st : Stmt) : Prop where
  gl : mg x = some (.ref (He.ga K x))
  fn : ∃ fd, FunD K x x (defArgs st) (defBody st) (defScope st) [] [] (He.ga K x) fd
/-- a method -/
structure Mn (K : PySem.W.Frag) (C m q : Str) (st : Stmt) (dvs : List V) : Prop where
  fn : ∃ fd, FunD K m q (defArgs st) (defBody st) (defScope st) dvs [] (He.ma K (He.ga K C) m) fd
/-- a getter -/
structure Pn (K : PySem.W.Frag) (C f q : Str) (st : Stmt) : Prop where
  pr : PropOf K (He.ga K C) f (He.ma K (He.ga K C) f) (getterAt K C f)
  fn : ∃ fd, FunD K f q (defArgs st) (defBody st) (defScope st) [] [] (getterAt K C f) fd
structure T (K : PySem.W.Frag) (mg : Str → Option Value) : Prop where
  is_integer : Dn K mg "is_integer" s_is_integer
  is_number : Dn K mg "is_number" s_is_number
  is_list : Dn K mg "is_list" s_is_list
  is_name : Dn K mg "is_name" s_is_name
  need_kind : Dn K mg "need_kind" s_need_kind
  first_standing : Dn K mg "first_standing" s_first_standing
  is_item : Dn K mg "is_item" s_is_item
  counts_in : Dn K mg "counts_in" s_counts_in
  is_standing : Dn K mg "is_standing" s_is_standing
  need_standing : Dn K mg "need_standing" s_need_standing
  old_songs : Dn K mg "old_songs" s_old_songs
  ages_in : Dn K mg "ages_in" s_ages_in
  barred_kinds : Dn K mg "barred_kinds" s_barred_kinds
  told_weights : Dn K mg "told_weights" s_told_weights
  all_weights : Dn K mg "all_weights" s_all_weights
  places : Dn K mg "places" s_places
  is_place : Dn K mg "is_place" s_is_place
  need_place : Dn K mg "need_place" s_need_place
  fraction : Dn K mg "fraction" s_fraction
  weight : Dn K mg "weight" s_weight
  chance : Dn K mg "chance" s_chance
  can_draw : Dn K mg "can_draw" s_can_draw
  drawn : Dn K mg "drawn" s_drawn
  is_step : Dn K mg "is_step" s_is_step
  behind : Dn K mg "behind" s_behind
  steps_from : Dn K mg "steps_from" s_steps_from
  wrong_step : Dn K mg "wrong_step" s_wrong_step
  is_course : Dn K mg "is_course" s_is_course
  led_to : Dn K mg "led_to" s_led_to
  ways_to : Dn K mg "ways_to" s_ways_to
  standings_of : Dn K mg "standings_of" s_standings_of
  are_weights : Dn K mg "are_weights" s_are_weights
  l_begin : Dn K mg "_law_begin" s_l_begin
  l_take : Dn K mg "_law_take" s_l_take
  l_pick : Dn K mg "_law_pick" s_l_pick
  l_mixed : Dn K mg "_law_mixed" s_l_mixed
  l_some_names : Dn K mg "_law_some_names" s_l_some_names
  l_drawn_case : Dn K mg "_law_drawn_case" s_l_drawn_case
  l_rule_of : Dn K mg "_law_rule_of" s_l_rule_of
  l_songs_in : Dn K mg "_law_songs_in" s_l_songs_in
  l_any_standing : Dn K mg "_law_any_standing" s_l_any_standing
  l_rows_at : Dn K mg "_law_rows_at" s_l_rows_at
  l_first_one : Dn K mg "_law_first_one" s_l_first_one
  l_walk : Dn K mg "_law_walk" s_l_walk
  l_drawn_on : Dn K mg "_law_drawn_on" s_l_drawn_on
  l_sums_right : Dn K mg "_law_sums_right" s_l_sums_right
  l_named_right : Dn K mg "_law_named_right" s_l_named_right
  l_bars_right : Dn K mg "_law_bars_right" s_l_bars_right
  q_law : Dn K mg "law" s_q_law
  Songs_init : Mn K "Songs" "__init__" "Songs.__init__" s_Songs_init []
  Songs_getitem : Mn K "Songs" "__getitem__" "Songs.__getitem__" s_Songs_getitem []
  Songs_contains : Mn K "Songs" "__contains__" "Songs.__contains__" s_Songs_contains []
  Rule_init : Mn K "Rule" "__init__" "Rule.__init__" s_Rule_init [.int 0]
  Rule_barring : Mn K "Rule" "barring" "Rule.barring" s_Rule_barring []
  Songs_numbers : Pn K "Songs" "numbers" "Songs.numbers" s_Songs_numbers
  Rule_cap : Pn K "Rule" "cap" "Rule.cap" s_Rule_cap
  Rule_weights : Pn K "Rule" "weights" "Rule.weights" s_Rule_weights
  Rule_skipped : Pn K "Rule" "skipped" "Rule.skipped" s_Rule_skipped
  Rule_spread : Pn K "Rule" "spread" "Rule.spread" s_Rule_spread
  z_isinstance : mg "isinstance" = none
  z_len : mg "len" = none
  z_all : mg "all" = none
  z_any : mg "any" = none
  z_sum : mg "sum" = none
  z_sorted : mg "sorted" = none
  z_dict : mg "dict" = none
  z_list : mg "list" = none
  z_tuple : mg "tuple" = none
  z_int : mg "int" = none
  z_str : mg "str" = none
  z_bool : mg "bool" = none
  z_max : mg "max" = none
  z_min : mg "min" = none
  z_abs : mg "abs" = none
  z_divmod : mg "divmod" = none
  z_range : mg "range" = none
  z_enumerate : mg "enumerate" = none
  z_zip : mg "zip" = none
  gSongs : mg "Songs" = some (.ref (He.ga K "Songs"))
  gRule : mg "Rule" = some (.ref (He.ga K "Rule"))
  c_MOST_KINDS : ∃ t, mg "MOST_KINDS" = some (.int 3 t)
  c_LONGEST_NAME : ∃ t, mg "LONGEST_NAME" = some (.int 8 t)
  c_LETTERS : ∃ t, mg "LETTERS" = some (.str "abcdefghijklmnopqrstuvwxyz" t)
  c_MOST_CAP : ∃ t, mg "MOST_CAP" = some (.int 4 t)
  c_MOST_WEIGHT : ∃ t, mg "MOST_WEIGHT" = some (.int 9 t)
  kSongs : Cls K (He.ga K "Songs")
  mSongs : Mk K (He.ga K "Songs") (He.ma K (He.ga K "Songs") "__init__")
  nNumbers : NoAttr K (He.ga K "Songs") "s_numbers"
  mtItem : Meth K (He.ga K "Songs") "__getitem__" (He.ma K (He.ga K "Songs") "__getitem__")
  mtHas : Meth K (He.ga K "Songs") "__contains__" (He.ma K (He.ga K "Songs") "__contains__")
  kRule : Cls K (He.ga K "Rule")
  mRule : Mk K (He.ga K "Rule") (He.ma K (He.ga K "Rule") "__init__")
  nWeights : NoAttr K (He.ga K "Rule") "r_weights"
  nSkipped : NoAttr K (He.ga K "Rule") "r_skipped"
  nSpread : NoAttr K (He.ga K "Rule") "r_spread"
  mtBar : Meth K (He.ga K "Rule") "barring" (He.ma K (He.ga K "Rule") "barring")
  noSeq : PySem.W.noSeq K (He.ga K "Songs") = true
  fItem : PySem.W.fnIn K (He.ma K (He.ga K "Songs") "__getitem__") = true
  fHas : PySem.W.fnIn K (He.ma K (He.ga K "Songs") "__contains__") = true
theorem T.of {K : PySem.W.Frag} {h : Heap} {mg : Str → Option Value} (X : K.In h) (G : h.Ns mainGlobals mg) (c : SaysU K) : T K mg where
  is_integer := ⟨He.glo_ok X G (c.d.fact 0 (f := .glo "is_integer") rfl), c.d.def_ 0 (d := d_is_integer) rfl⟩
  is_number := ⟨He.glo_ok X G (c.d.fact 1 (f := .glo "is_number") rfl), c.d.def_ 1 (d := d_is_number) rfl⟩
  is_list := ⟨He.glo_ok X G (c.d.fact 2 (f := .glo "is_list") rfl), c.d.def_ 2 (d := d_is_list) rfl⟩
  is_name := ⟨He.glo_ok X G (c.d.fact 3 (f := .glo "is_name") rfl), c.d.def_ 3 (d := d_is_name) rfl⟩
  need_kind := ⟨He.glo_ok X G (c.d.fact 4 (f := .glo "need_kind") rfl), c.d.def_ 4 (d := d_need_kind) rfl⟩
  first_standing := ⟨He.glo_ok X G (c.d.fact 5 (f := .glo "first_standing") rfl), c.d.def_ 5 (d := d_first_standing) rfl⟩
  is_item := ⟨He.glo_ok X G (c.d.fact 6 (f := .glo "is_item") rfl), c.d.def_ 6 (d := d_is_item) rfl⟩
  counts_in := ⟨He.glo_ok X G (c.d.fact 7 (f := .glo "counts_in") rfl), c.d.def_ 7 (d := d_counts_in) rfl⟩
  is_standing := ⟨He.glo_ok X G (c.d.fact 8 (f := .glo "is_standing") rfl), c.d.def_ 8 (d := d_is_standing) rfl⟩
  need_standing := ⟨He.glo_ok X G (c.d.fact 9 (f := .glo "need_standing") rfl), c.d.def_ 9 (d := d_need_standing) rfl⟩
  old_songs := ⟨He.glo_ok X G (c.d.fact 10 (f := .glo "old_songs") rfl), c.d.def_ 10 (d := d_old_songs) rfl⟩
  ages_in := ⟨He.glo_ok X G (c.d.fact 11 (f := .glo "ages_in") rfl), c.d.def_ 11 (d := d_ages_in) rfl⟩
  barred_kinds := ⟨He.glo_ok X G (c.d.fact 12 (f := .glo "barred_kinds") rfl), c.d.def_ 12 (d := d_barred_kinds) rfl⟩
  told_weights := ⟨He.glo_ok X G (c.d.fact 13 (f := .glo "told_weights") rfl), c.d.def_ 13 (d := d_told_weights) rfl⟩
  all_weights := ⟨He.glo_ok X G (c.d.fact 14 (f := .glo "all_weights") rfl), c.d.def_ 14 (d := d_all_weights) rfl⟩
  places := ⟨He.glo_ok X G (c.d.fact 15 (f := .glo "places") rfl), c.d.def_ 15 (d := d_places) rfl⟩
  is_place := ⟨He.glo_ok X G (c.d.fact 16 (f := .glo "is_place") rfl), c.d.def_ 16 (d := d_is_place) rfl⟩
  need_place := ⟨He.glo_ok X G (c.d.fact 17 (f := .glo "need_place") rfl), c.d.def_ 17 (d := d_need_place) rfl⟩
  fraction := ⟨He.glo_ok X G (c.d.fact 18 (f := .glo "fraction") rfl), c.d.def_ 18 (d := d_fraction) rfl⟩
  weight := ⟨He.glo_ok X G (c.d.fact 19 (f := .glo "weight") rfl), c.d.def_ 19 (d := d_weight) rfl⟩
  chance := ⟨He.glo_ok X G (c.d.fact 20 (f := .glo "chance") rfl), c.d.def_ 20 (d := d_chance) rfl⟩
  can_draw := ⟨He.glo_ok X G (c.d.fact 21 (f := .glo "can_draw") rfl), c.d.def_ 21 (d := d_can_draw) rfl⟩
  drawn := ⟨He.glo_ok X G (c.d.fact 22 (f := .glo "drawn") rfl), c.d.def_ 22 (d := d_drawn) rfl⟩
  is_step := ⟨He.glo_ok X G (c.d.fact 23 (f := .glo "is_step") rfl), c.d.def_ 23 (d := d_is_step) rfl⟩
  behind := ⟨He.glo_ok X G (c.d.fact 24 (f := .glo "behind") rfl), c.d.def_ 24 (d := d_behind) rfl⟩
  steps_from := ⟨He.glo_ok X G (c.d.fact 25 (f := .glo "steps_from") rfl), c.d.def_ 25 (d := d_steps_from) rfl⟩
  wrong_step := ⟨He.glo_ok X G (c.d.fact 26 (f := .glo "wrong_step") rfl), c.d.def_ 26 (d := d_wrong_step) rfl⟩
  is_course := ⟨He.glo_ok X G (c.d.fact 27 (f := .glo "is_course") rfl), c.d.def_ 27 (d := d_is_course) rfl⟩
  led_to := ⟨He.glo_ok X G (c.d.fact 28 (f := .glo "led_to") rfl), c.d.def_ 28 (d := d_led_to) rfl⟩
  ways_to := ⟨He.glo_ok X G (c.d.fact 29 (f := .glo "ways_to") rfl), c.d.def_ 29 (d := d_ways_to) rfl⟩
  standings_of := ⟨He.glo_ok X G (c.d.fact 30 (f := .glo "standings_of") rfl), c.d.def_ 30 (d := d_standings_of) rfl⟩
  are_weights := ⟨He.glo_ok X G (c.d.fact 31 (f := .glo "are_weights") rfl), c.d.def_ 31 (d := d_are_weights) rfl⟩
  l_begin := ⟨He.glo_ok X G (c.d.fact 32 (f := .glo "_law_begin") rfl), c.d.def_ 32 (d := d_l_begin) rfl⟩
  l_take := ⟨He.glo_ok X G (c.d.fact 33 (f := .glo "_law_take") rfl), c.d.def_ 33 (d := d_l_take) rfl⟩
  l_pick := ⟨He.glo_ok X G (c.d.fact 34 (f := .glo "_law_pick") rfl), c.d.def_ 34 (d := d_l_pick) rfl⟩
  l_mixed := ⟨He.glo_ok X G (c.d.fact 35 (f := .glo "_law_mixed") rfl), c.d.def_ 35 (d := d_l_mixed) rfl⟩
  l_some_names := ⟨He.glo_ok X G (c.d.fact 36 (f := .glo "_law_some_names") rfl), c.d.def_ 36 (d := d_l_some_names) rfl⟩
  l_drawn_case := ⟨He.glo_ok X G (c.d.fact 37 (f := .glo "_law_drawn_case") rfl), c.d.def_ 37 (d := d_l_drawn_case) rfl⟩
  l_rule_of := ⟨He.glo_ok X G (c.d.fact 38 (f := .glo "_law_rule_of") rfl), c.d.def_ 38 (d := d_l_rule_of) rfl⟩
  l_songs_in := ⟨He.glo_ok X G (c.d.fact 39 (f := .glo "_law_songs_in") rfl), c.d.def_ 39 (d := d_l_songs_in) rfl⟩
  l_any_standing := ⟨He.glo_ok X G (c.d.fact 40 (f := .glo "_law_any_standing") rfl), c.d.def_ 40 (d := d_l_any_standing) rfl⟩
  l_rows_at := ⟨He.glo_ok X G (c.d.fact 41 (f := .glo "_law_rows_at") rfl), c.d.def_ 41 (d := d_l_rows_at) rfl⟩
  l_first_one := ⟨He.glo_ok X G (c.d.fact 42 (f := .glo "_law_first_one") rfl), c.d.def_ 42 (d := d_l_first_one) rfl⟩
  l_walk := ⟨He.glo_ok X G (c.d.fact 43 (f := .glo "_law_walk") rfl), c.d.def_ 43 (d := d_l_walk) rfl⟩
  l_drawn_on := ⟨He.glo_ok X G (c.d.fact 44 (f := .glo "_law_drawn_on") rfl), c.d.def_ 44 (d := d_l_drawn_on) rfl⟩
  l_sums_right := ⟨He.glo_ok X G (c.d.fact 45 (f := .glo "_law_sums_right") rfl), c.d.def_ 45 (d := d_l_sums_right) rfl⟩
  l_named_right := ⟨He.glo_ok X G (c.d.fact 46 (f := .glo "_law_named_right") rfl), c.d.def_ 46 (d := d_l_named_right) rfl⟩
  l_bars_right := ⟨He.glo_ok X G (c.d.fact 47 (f := .glo "_law_bars_right") rfl), c.d.def_ 47 (d := d_l_bars_right) rfl⟩
  q_law := ⟨He.glo_ok X G (c.d.fact 48 (f := .glo "law") rfl), c.d.def_ 48 (d := d_q_law) rfl⟩
  Songs_init := ⟨c.d.def_ 49 (d := d_Songs_init) rfl⟩
  Songs_getitem := ⟨c.d.def_ 50 (d := d_Songs_getitem) rfl⟩
  Songs_contains := ⟨c.d.def_ 51 (d := d_Songs_contains) rfl⟩
  Rule_init := ⟨c.d.def_ 52 (d := d_Rule_init) rfl⟩
  Rule_barring := ⟨c.d.def_ 53 (d := d_Rule_barring) rfl⟩
  Songs_numbers := ⟨Gt.is_prop (d := g_Songs_numbers) (c.gt 0 rfl).1, Gt.is_fn (d := g_Songs_numbers) (c.gt 0 rfl).1 (c.gt 0 rfl).2⟩
  Rule_cap := ⟨Gt.is_prop (d := g_Rule_cap) (c.gt 1 rfl).1, Gt.is_fn (d := g_Rule_cap) (c.gt 1 rfl).1 (c.gt 1 rfl).2⟩
  Rule_weights := ⟨Gt.is_prop (d := g_Rule_weights) (c.gt 2 rfl).1, Gt.is_fn (d := g_Rule_weights) (c.gt 2 rfl).1 (c.gt 2 rfl).2⟩
  Rule_skipped := ⟨Gt.is_prop (d := g_Rule_skipped) (c.gt 3 rfl).1, Gt.is_fn (d := g_Rule_skipped) (c.gt 3 rfl).1 (c.gt 3 rfl).2⟩
  Rule_spread := ⟨Gt.is_prop (d := g_Rule_spread) (c.gt 4 rfl).1, Gt.is_fn (d := g_Rule_spread) (c.gt 4 rfl).1 (c.gt 4 rfl).2⟩
  z_isinstance := He.free_ok X G (c.d.fact 51 (f := .free "isinstance") rfl)
  z_len := He.free_ok X G (c.d.fact 52 (f := .free "len") rfl)
  z_all := He.free_ok X G (c.d.fact 53 (f := .free "all") rfl)
  z_any := He.free_ok X G (c.d.fact 54 (f := .free "any") rfl)
  z_sum := He.free_ok X G (c.d.fact 55 (f := .free "sum") rfl)
  z_sorted := He.free_ok X G (c.d.fact 56 (f := .free "sorted") rfl)
  z_dict := He.free_ok X G (c.d.fact 57 (f := .free "dict") rfl)
  z_list := He.free_ok X G (c.d.fact 58 (f := .free "list") rfl)
  z_tuple := He.free_ok X G (c.d.fact 59 (f := .free "tuple") rfl)
  z_int := He.free_ok X G (c.d.fact 60 (f := .free "int") rfl)
  z_str := He.free_ok X G (c.d.fact 61 (f := .free "str") rfl)
  z_bool := He.free_ok X G (c.d.fact 62 (f := .free "bool") rfl)
  z_max := He.free_ok X G (c.d.fact 63 (f := .free "max") rfl)
  z_min := He.free_ok X G (c.d.fact 64 (f := .free "min") rfl)
  z_abs := He.free_ok X G (c.d.fact 65 (f := .free "abs") rfl)
  z_divmod := He.free_ok X G (c.d.fact 66 (f := .free "divmod") rfl)
  z_range := He.free_ok X G (c.d.fact 67 (f := .free "range") rfl)
  z_enumerate := He.free_ok X G (c.d.fact 68 (f := .free "enumerate") rfl)
  z_zip := He.free_ok X G (c.d.fact 69 (f := .free "zip") rfl)
  gSongs := He.glo_ok X G (c.d.fact 49 (f := .glo "Songs") rfl)
  gRule := He.glo_ok X G (c.d.fact 50 (f := .glo "Rule") rfl)
  c_MOST_KINDS := He.int_ok X G (c.d.fact 70 (f := .int "MOST_KINDS" 3) rfl)
  c_LONGEST_NAME := He.int_ok X G (c.d.fact 71 (f := .int "LONGEST_NAME" 8) rfl)
  c_LETTERS := He.str_ok X G (c.d.fact 72 (f := .str "LETTERS" "abcdefghijklmnopqrstuvwxyz") rfl)
  c_MOST_CAP := He.int_ok X G (c.d.fact 73 (f := .int "MOST_CAP" 4) rfl)
  c_MOST_WEIGHT := He.int_ok X G (c.d.fact 74 (f := .int "MOST_WEIGHT" 9) rfl)
  kSongs := He.cls_ok (x := "Songs") (c.d.fact 75 rfl)
  mSongs := He.mkr_ok (x := "Songs") (c.d.fact 76 rfl)
  nNumbers := He.noat_ok (x := "Songs") (f := "s_numbers") (c.d.fact 77 rfl)
  mtItem := He.meth_ok (x := "Songs") (m := "__getitem__") (c.d.fact 78 rfl)
  mtHas := He.meth_ok (x := "Songs") (m := "__contains__") (c.d.fact 79 rfl)
  kRule := He.cls_ok (x := "Rule") (c.d.fact 80 rfl)
  mRule := He.mkr_ok (x := "Rule") (c.d.fact 81 rfl)
  nWeights := He.noat_ok (x := "Rule") (f := "r_weights") (c.d.fact 82 rfl)
  nSkipped := He.noat_ok (x := "Rule") (f := "r_skipped") (c.d.fact 83 rfl)
  nSpread := He.noat_ok (x := "Rule") (f := "r_spread") (c.d.fact 84 rfl)
  mtBar := He.meth_ok (x := "Rule") (m := "barring") (c.d.fact 85 rfl)
  noSeq := (Bool.and_eq_true_iff.mp c.more).1
  fItem := (Bool.and_eq_true_iff.mp (Bool.and_eq_true_iff.mp c.more).2).1
  fHas := (Bool.and_eq_true_iff.mp (Bool.and_eq_true_iff.mp c.more).2).2
end U

set_option Elab.async false
set_option linter.all false
set_option maxRecDepth 100000
set_option maxHeartbeats 0
/-! The head: the top by one kernel run. -/
namespace U
open PySem PySem.W
abbrev RowU : OpenRow := OpenLaw.row PySem.Challenge.rw_unheard_k12_whole_chances_and_draws
abbrev hk : PySem.W.Hook := hookU 6
def obT (s : PySem.W.SharedT) : AlU := obsU 6 (HandSHeadRun.getT s)
theorem obT_eq (s : PySem.W.SharedT) : obT s = hk.obs s.abs := obsU_eq (HandSHeadRun.getT_eq s)
def other0 : List PySem.Str := ["_wall", "DrawError", "BadSongs", "BadRule", "BadCourse", "NoKind", "BadStanding", "BadPlace", "BadNumber", "MOST_KINDS"]
def other1 : List PySem.Str := ["LONGEST_NAME", "LETTERS", "is_integer", "is_number", "is_list", "is_name", "Songs", "need_kind", "first_standing", "is_item"]
def other2 : List PySem.Str := ["counts_in", "is_standing", "need_standing", "old_songs", "ages_in", "barred_kinds", "told_weights", "all_weights", "places", "is_place"]
def other3 : List PySem.Str := ["need_place", "fraction", "weight", "chance", "can_draw", "drawn", "is_step", "behind", "steps_from", "wrong_step"]
def other4 : List PySem.Str := ["is_course", "led_to", "ways_to", "standings_of", "MOST_CAP", "MOST_WEIGHT", "are_weights", "Rule", "_law_begin", "_law_take"]
def other5 : List PySem.Str := ["_law_pick", "_law_mixed", "_law_some_names", "_law_drawn_case", "_law_rule_of", "_law_songs_in", "_law_any_standing", "_law_rows_at", "_law_first_one", "_law_walk"]
def other6 : List PySem.Str := ["_law_drawn_on", "_law_sums_right", "_law_named_right", "_law_bars_right"]
def otherNames : List PySem.Str := other0 ++ (other1 ++ (other2 ++ (other3 ++ (other4 ++ (other5 ++ (other6))))))
theorem topRan (w : World) : HandSHeadRun.RunEq RowU (PySem.W.view RowU.prog [70]) hk obT 8000 otherNames w := by
  intro os
  kernel_rfl
end U

set_option Elab.async false
set_option linter.all false
set_option maxRecDepth 100000
set_option maxHeartbeats 4000000
/-! Rules of our own: calls of defs by their promises, own [] and in, properties. -/
namespace U
open PySem PySem.Spec PyProof.Rows L2
/-! ### promises without a word on exceptions -/
abbrev Pr := List V → Hp → VK → Prop
abbrev Pr.sp (p : Pr) : Sp := fun vs H Q _ => p vs H Q
/-- the def at f keeps the promise p -/
abbrev Ok (P : Program) (w : World) (K : PySem.W.Frag) (mg : Str → Option Value) (base : Heap) (k : Nat) (f : Addr) (p : Pr) : Prop := FnR P w K mg base CX0 k f p.sp
section
variable {P : Program} {w : World} {K : PySem.W.Frag} {mg : Str → Option Value} {base : Heap}
/-- the context of a def's body -/
abbrev cxU (P : Program) (w : World) (K : PySem.W.Frag) (mg : Str → Option Value) (base : Heap) (N : List Str) (q : Str) (st : Stmt) (f : Addr) (cdv : Value) (A : Around) (outer : List Env) (s : Shared) (H : Hp) (E : XK) : Cx :=
  (cxOf CX0 P w K mg base N q (defScope st) f cdv A outer s H E).nox
/-- a def without defaults: by its body -/
theorem okD {x q : Str} {st : Stmt} {f : Addr} {dvs : List V} {fd : FuncData} {N ps : List Str} {k : Nat} {p : Pr} (F : FunD K x q (defArgs st) (defBody st) (defScope st) dvs [] f fd) (S : FnScope N ps (defScope st)) (len : ∀ vs H Q, p vs H Q → vs.length = ps.length)
    (hbody : ∀ (cdv : Value) (A : Around) (outer : List Env) (s : Shared) (H : Hp) (vs : List V) (Q : VK) (E : XK), Room k (A.deeper (envOfC q (defScope st) s.heap.objs.size f cdv)) → p vs H Q →
      ∃ t, PSs (cxU P w K mg base N q st f cdv A outer s H E) (defBody st) t ∧ t { nx := fun _ H' => Q .non H', rt := Q } (start N vs) H) : FnOk P w K mg base CX0 (k + 1) f fd ps p.sp := by
  refine F.ok S (fun vs H Q _ h => len vs H Q h) fun cdv A outer s H vs Q E hr h => ?_
  obtain ⟨t, h1, h2⟩ := hbody cdv A outer s H vs Q E hr h
  exact ⟨t, h1.nox, h2⟩
theorem ok_raw {k : Nat} {f : Addr} {fd : FuncData} {ps : List Str} {p : Pr} (F : FnOk P w K mg base CX0 k f fd ps p.sp) (hb : Binds K fd ps []) : Ok P w K mg base k f p :=
  (F.raw hb .nil).imp fun vs H Q _ h => by
    show p (vs ++ []) H Q
    rw [List.append_nil]
    exact h
/-- a global def keeps its promise -/
theorem Dn.ok {x : Str} {st : Stmt} {N ps : List Str} {k : Nat} {p : Pr} (D : Dn K mg x st) (S : FnScope N ps (defScope st))
    (bd : ∀ (kV doc pm : Value) (an : Option Addr) (cdv ct : Value) (us : List Value), us.length = ps.length → bindArgs (PySem.W.fnOf x x (defArgs st) (defBody st) (defScope st) .none kV doc pm an cdv ct) ⟨us, []⟩ = pure (ps.zip us))
    (len : ∀ vs H Q, p vs H Q → vs.length = ps.length)
    (hbody : ∀ (cdv : Value) (A : Around) (outer : List Env) (s : Shared) (H : Hp) (vs : List V) (Q : VK) (E : XK), Room k (A.deeper (envOfC x (defScope st) s.heap.objs.size (He.ga K x) cdv)) → p vs H Q →
      ∃ t, PSs (cxU P w K mg base N x st (He.ga K x) cdv A outer s H E) (defBody st) t ∧ t { nx := fun _ H' => Q .non H', rt := Q } (start N vs) H) : Ok P w K mg base (k + 1) (He.ga K x) p := by
  obtain ⟨fd, F⟩ := D.fn
  exact ok_raw (okD F S len hbody) (F.bindsN bd)
/-- a method (or a getter) at f -/
theorem ok_meth {x q : Str} {st : Stmt} {f : Addr} {N ps : List Str} {k : Nat} {p : Pr} (D : ∃ fd, FunD K x q (defArgs st) (defBody st) (defScope st) [] [] f fd) (S : FnScope N ps (defScope st))
    (bd : ∀ (kV doc pm : Value) (an : Option Addr) (cdv ct : Value) (us : List Value), us.length = ps.length → bindArgs (PySem.W.fnOf x q (defArgs st) (defBody st) (defScope st) .none kV doc pm an cdv ct) ⟨us, []⟩ = pure (ps.zip us))
    (len : ∀ vs H Q, p vs H Q → vs.length = ps.length)
    (hbody : ∀ (cdv : Value) (A : Around) (outer : List Env) (s : Shared) (H : Hp) (vs : List V) (Q : VK) (E : XK), Room k (A.deeper (envOfC q (defScope st) s.heap.objs.size f cdv)) → p vs H Q →
      ∃ t, PSs (cxU P w K mg base N q st f cdv A outer s H E) (defBody st) t ∧ t { nx := fun _ H' => Q .non H', rt := Q } (start N vs) H) : ∃ fd, FnOk P w K mg base CX0 (k + 1) f fd ps p.sp ∧ Binds K fd ps [] := by
  obtain ⟨fd, F⟩ := D
  exact ⟨fd, okD F S len hbody, F.bindsN bd⟩
theorem Dn.kp {x : Str} {st : Stmt} (D : Dn K mg x st) : PySem.W.keepIn K (.ref (He.ga K x)) = true := let ⟨_, F⟩ := D.fn; F.kp
end
/-! ### a call of a def -/
def tCal (p : Pr) (t : TA) : TE := fun σ H Q => t σ H fun vs H1 => p vs H1 Q
section
variable {X : Cx} {k : Nat} {f : Addr} {x : Str} {st : Stmt} {p : Pr} {pp pos : Pos} {e : Expr} {es : List Expr} {t : TA}
theorem pe_cal (F : Ok X.prog X.w X.K X.mg X.base k (He.ga X.K x) p) (hr : Room k X.A) (hg : Gl X x) (D : Dn X.K X.mg x st) (ha : PA X (e :: es) t) (hdb : (x == ("__debug__" : Str)) = false := by decide)
    (he : starEach (e :: es) X.env = (false, eval e X.env) :: starEach es X.env := by rfl) (hpl : (backTo pos (starEach es X.env)).any (·.1) = false := by rfl) : PE X (.Call (.Name x pp) (e :: es) [] pos) (tCal p t) :=
  ⟨fun pins s σ H Q I h => wpAny_Call_Name_kw (ld_glob I hg D.gl (PySem.W.callWith_K (h₀ := X.base) I.ok.mod.kin D.kp (thn (ha.run pos pins s σ H _ I h) fun us s1 ⟨vs, H1, I1, r, q⟩ => ⟨I1.kIn, wpAny_call (run_fnR F hr (pass0 (X := X)) I1 r q)⟩) he hpl) hdb)⟩
end
/-! ### o[i], v in o of an instance with own methods -/
section
variable {X : Cx} {k : Nat} {C f : Addr} {p : Pr} {a b : Expr} {ta tb : TE} {pos : Pos}
/-- the promise of C's method f, asked of an instance and one value -/
def rOwn2 (C : Addr) (p : Pr) : V → V → Hp → VK → Prop := fun x y H Q => ∃ o dx fs, x = .ref o ∧ H o = some (.ins C dx fs) ∧ p [x, y] H Q
theorem pe_ownItem (hs : PySem.W.findIn X.K (.ref C) "__getitem__" = some (some (.ref f))) (hf : PySem.W.fnIn X.K f = true) (hfn : PySem.W.isFn X.K (.ref f) = true) (F : Ok X.prog X.w X.K X.mg X.base k f p) (hr : Room (k + 1) X.A) (ha : PE X a ta) (hb : PE X b tb)
    (hsl : ∀ o i, subscripted b true o i = runValue (.builtin "lifetime.subscript" ⟨[o, i], []⟩)) : PE X (.Subscript a b pos) (tOp (rOwn2 C p) ta tb) := by
  refine ⟨fun pins s σ H Q I h => Subscript_ (binT ha hb I h fun v u s2 x y H2 I2 rx ry q => ?_)⟩
  obtain ⟨o, dx, fs, rfl, ho, q⟩ := q
  cases (show v = Value.ref o from rx)
  obtain ⟨mA, O, _⟩ := ins_get I2.hok ho
  obtain ⟨od, J, _⟩ := O.look
  obtain ⟨m, hF⟩ := I2.fr
  refine PySem.W.sub_K hF I2.ok.mod.kin J hs hf hfn ?_ (hsl _ _)
  refine wpAny_call (codeAny_mono (F X.A.in1 X.stack s2 H2 [.ref o, u] [.ref o, y] Q E0 hr.in1 I2.env0.in1 (.cons rfl (.cons ry .nil)) q) fun r s' hq => ?_)
  cases r with
  | error er => exact False.elim hq
  | ok fl => cases fl with
    | ret z => exact I2.after hq
    | next => exact False.elim hq
    | brk => exact False.elim hq
    | cont => exact False.elim hq
/-- v in o: the method hands back a bool -/
def rOwnIn (C : Addr) (p : Pr) : R2 := fun y x H Q => ∃ o dx fs, x = .ref o ∧ H o = some (.ins C dx fs) ∧ p [x, y] H fun z H' => ∃ c, z = .bl c ∧ Q z H'
theorem op_ownIn (hs : PySem.W.findIn X.K (.ref C) "__contains__" = some (some (.ref f))) (hfn : PySem.W.isFn X.K (.ref f) = true) (F : Ok X.prog X.w X.K X.mg X.base k f p) (hr : Room k X.A) : OpR X (compareOp .In) (rOwnIn C p) := by
  intro pins s σ H y x u v Q I ry rx q
  obtain ⟨o, dx, fs, rfl, ho, q⟩ := q
  cases (show v = Value.ref o from rx)
  obtain ⟨mA, O, _⟩ := ins_get I.hok ho
  obtain ⟨od, J, _⟩ := O.look
  obtain ⟨m, hF⟩ := I.fr
  refine PySem.W.in_K hF I.ok.mod.kin J hs hfn (wpAny_call (codeAny_mono (run_fnR (us := [.ref o, u]) (vs := [.ref o, y]) (Q := fun z H' => ∃ c, z = .bl c ∧ Q z H') F hr (pass0 (X := X)) I (.cons rfl (.cons ry .nil)) q) fun r s' hq => ?_))
  cases r with
  | error er => exact hq
  | ok fl => cases fl with
    | ret z =>
      obtain ⟨w', H', I', rz, c, rfl, qz⟩ := hq
      cases (show z = Value.bool c from rz)
      exact wpAny_truthy_bool ⟨.bl c, H', I', rfl, qz⟩
    | next => exact False.elim hq
    | brk => exact False.elim hq
    | cont => exact False.elim hq
/-! ### e.f, a property -/
def tPrp (C : Addr) (p : Pr) (ta : TE) : TE := fun σ H Q => ta σ H fun x H1 => ∃ o dx fs, x = .ref o ∧ H1 o = some (.ins C dx fs) ∧ p [x] H1 Q
theorem pe_prp {q g : Addr} {fn : Str} (hp : PropOf X.K C fn q g) (c : Cls X.K C) (F : ∃ fd, FnOk X.prog X.w X.K X.mg X.base CX0 k g fd ["self"] p.sp ∧ Binds X.K fd ["self"] []) (hr : Room (k + 1) X.A) (ha : PE X a ta)
    (hab : attributeBase a fn X.env (eval a X.env) = eval a X.env) : PE X (.Attribute a fn pos) (tPrp C p ta) := by
  obtain ⟨fd, F, hb⟩ := F
  refine ⟨fun pins s σ H Q I h => (pe_prop (E := E0) ha c hp F hr hb .nil (pass0 (X := X.nox)) hab).run pins s σ H Q I ?_⟩
  have key : (fun (x : V) (H1 : Hp) => ∃ o dx fs, x = .ref o ∧ H1 o = some (.ins C dx fs) ∧ p [x] H1 Q) = fun x H1 => ∃ a dx fs, x = .ref a ∧ H1 a = some (.ins C dx fs) ∧ p.sp (.ref a :: []) H1 Q E0 := by
    funext x H1
    refine propext ⟨?_, ?_⟩
    · rintro ⟨o, dx, fs, rfl, h1, h2⟩
      exact ⟨o, dx, fs, rfl, h1, h2⟩
    · rintro ⟨o, dx, fs, rfl, h1, h2⟩
      exact ⟨o, dx, fs, rfl, h1, h2⟩
  show ta σ H fun x H1 => ∃ a dx fs, x = .ref a ∧ H1 a = some (.ins C dx fs) ∧ p.sp (.ref a :: []) H1 Q E0
  rw [← key]
  exact h
end
end U

set_option Elab.async false
set_option linter.all false
set_option maxRecDepth 100000
set_option maxHeartbeats 4000000
/-! More rules: enumerate(tuple), any of ints, list(d.values()), max of a tuple of ints, d[k] = v as one of several targets. -/
namespace U
open PySem PySem.Spec PyProof.Rows L2
/-! ### enumerate(t), t a tuple -/
theorem meets_enum1 {v : Value} {o : Obj} {G : Heap → Prop} (B : Begins v o G) :
    Meets (Builtin.«enumerate.__new__» ⟨[.type "enumerate", v], []⟩) (fun _ R s => G s.heap ∧
      R (.ok (.ret (.ref (s.heap.push o).objs.size))) { s with heap := (s.heap.push o).push { cls := .type "enumerate", data := .fields #[.none, .bool false, .ref s.heap.objs.size, rawInt 0, .none, .none] } }) :=
  .of_wp fun prog w A R s h => by
    obtain ⟨hp, g, d, tk, os⟩ := s
    obtain ⟨hG, hR⟩ := h
    have subE := sub_enumerate
    have itE : ∀ {A' : Around} {E : Value → Shared → Prop} {Q : Value → Shared → Prop}, Q (.ref hp.objs.size) ⟨hp.push o, g, d, tk, os⟩ → wpAny (model prog w) A' (pyIter v) Q E ⟨hp, g, d, tk, os⟩ :=
      fun q => B.iter prog w _ _ ⟨hp, g, d, tk, os⟩ _ hG q
    wp_walk using itE
    refine wpAny_stack_any fun st => wpAny_pure ?_
    split
    · rename_i c _ _ _ _ _
      cases (c == Value.type "enumerate") <;> (wp_walk using itE; exact ⟨_, rfl, hR⟩)
    · wp_walk using itE
      exact ⟨_, rfl, hR⟩
section
variable {prog : Program} {w : World} {A : Around} {E : Value → Shared → Prop} {s : Shared}
theorem enum1_begins {v : Value} {o : Obj} {G : Heap → Prop} {Q : Value → Shared → Prop} (B : Begins v o G) (h1 : G s.heap)
    (h : ∀ h', IsEnum h' (s.heap.objs.size + 1) s.heap.objs.size 0 .none → h'.get? s.heap.objs.size = some o → (∀ b o, s.heap.get? b = some o → h'.get? b = some o) → Q (.ref (s.heap.objs.size + 1)) { s with heap := h' }) :
    wpAny (model prog w) A (call (.type "enumerate") [v]) Q E s := by
  refine callType_new F.called_enumerate (by decide) (F.typeCall_enumerate_1 _) (F.newCall_enumerate_1 _) (fun obj => F.args_object_init_2 obj _) F.entry_enumerate_new (meets_enum1 B) ⟨h1, ?_⟩
  have hz : (s.heap.push o).objs.size = s.heap.objs.size + 1 := Heap.size_push ..
  show _ ∧ _
  rw [hz]
  have he : IsEnum ((s.heap.push o).push { cls := .type "enumerate", data := .fields #[.none, .bool false, .ref s.heap.objs.size, rawInt 0, .none, .none] }) (s.heap.objs.size + 1) s.heap.objs.size 0 .none := by
    have q := Heap.get?_push_size (s.heap.push o) (o := { cls := .type "enumerate", data := .fields #[.none, .bool false, .ref s.heap.objs.size, rawInt 0, .none, .none] }) rfl
    rw [hz] at q
    exact q
  exact ⟨⟨_, he, rfl⟩, h _ he (Heap.get?_push_of_some _ (Heap.get?_push_size _ B.free)) fun b o x => Heap.get?_push_of_some _ (Heap.get?_push_of_some _ x)⟩
end
/-- the tuple at a, each item in a new pair with its place -/
def IteT (K : PySem.W.Frag) (a : Addr) : It :=
  ⟨fun i H => ∃ (xs : List V) (x : V), SqT K H a xs ∧ xs[i]? = some x, fun i H v H' => ∃ t x, v = .ref t ∧ H t = none ∧ H' = upd H t (.tup [.int (i : Nat), x]) ∧ ∀ xs, SqT K H a xs → xs[i]? = some x, fun i H => ∃ xs : List V, SqT K H a xs ∧ i = xs.length⟩
theorem turn_enumT {P : Program} {w : World} {K : PySem.W.Frag} {elts : List Expr} {kk : Nat} {tpos : Pos} (a e it : Addr) (hai : a ≠ it) (hae : a ≠ e) :
    Turn P w K (.Tuple elts kk tpos) (IteT K a) [e, it] e (fun i h => (∃ old, IsEnum h e it ((i : Nat) : Int) old) ∧ h.IsTupleIter it a i ∧ e ≠ it) where
  mem := by simp
  obj := fun i h st b hb => by
    obtain ⟨⟨old, he⟩, ⟨o, ho, hc, hd⟩, _⟩ := st
    rcases (show b = e ∨ b = it by simpa using hb) with z | z
    · rw [z]; exact ⟨_, he, fun v q => nomatch q⟩
    · rw [z]; exact ⟨o, ho, fun v q => by rw [hd] at q; cases q⟩
  keep := fun i h h' st k => let ⟨⟨old, he⟩, hi, hne⟩ := st; ⟨⟨old, k e (by simp) _ he⟩, hi.at fun o q => k it (by simp) o q, hne⟩
  item := by
    intro X hP hw hK hc i pins s σ H E I hf st hg
    subst hP hw hK
    obtain ⟨⟨old, he⟩, hit, hne⟩ := st
    obtain ⟨xs, x, hq, hx⟩ := hg
    obtain ⟨its, rv, p, hz⟩ := I.tuple hq
    obtain ⟨u, hu, ru⟩ := rv.get hx
    have hel : e < s.heap.objs.size := Heap.lt_size he
    have hil : it < s.heap.objs.size := by obtain ⟨_, q, _⟩ := hit; exact Heap.lt_size q
    have hlt : i < its.toArray.size := by
      have := (List.getElem?_eq_some_iff.mp hu).1
      simpa using this
    have ein : e ∉ [it, a] := by
      intro z
      rcases (show e = it ∨ e = a by simpa using z) with q | q
      · exact hne q
      · exact hae q.symm
    refine wpAny_pyNext_enum_itemC (D := Draws.tuple (prog := X.prog) (w := X.w) (A := X.A.in1) (I.ok.hd hc) it a hai its.toArray) he ⟨hit, (show s.heap.IsTuple a its.toArray from p)⟩ hlt hne ein fun u' h' tk hP ho hst hT hsz hk => ?_
    have hu' : its[i]? = some u' := by simpa using hP
    obtain rfl : u' = u := Option.some.inj (hu'.symm.trans hu)
    refine ⟨_, rfl, wpAny_letOwnedTupleGo_enum (s := { s with heap := h', toks := tk + 1 }) ho fun h'' he' sb => ?_⟩
    have hT2 : h''.get? s.heap.objs.size = some { cls := .type "tuple", data := .seq #[.int i tk, u'] } := (sb.2 _ (Nat.ne_of_gt hel)).trans hT
    have new : ObjOk X.prog X.w (upd H s.heap.objs.size (.tup [.int (i : Nat), x])) h'' s.heap.objs.size (.tup [.int (i : Nat), x]) :=
      ⟨by show 2 ≤ sizeLine; decide, [.int i tk, u'], .cons ⟨_, rfl⟩ (.cons ru .nil), ⟨_, hT2, rfl, _, rfl⟩⟩
    have I1 : Inv X pins σ (upd H s.heap.objs.size (.tup [.int (i : Nat), x])) { s with heap := h'', toks := tk + 1 } :=
      I.turnedNew (ch := [e, it]) (fun b ob hb q => (sb.2 b (fun z => hb (by simp [z]))).trans (hk b ob (fun z => hb (by simp [z])) (fun z => hb (by simp [z])) q)) hf (Nat.le_refl _) new
    refine ⟨.ref s.heap.objs.size, _, I1, rfl, ⟨_, x, rfl, I.hok.fresh (Nat.le_refl _), rfl, fun ys hy => by rw [I.tuple_inj hy hq]; exact hx⟩, ⟨⟨u', ?_⟩, hst.1.at fun o q => (sb.2 it (Ne.symm hne)).trans q, hne⟩, fun b hb => ?_⟩
    · have e1 : ((i + 1 : Nat) : Int) = (i : Int) + 1 := by omega
      rw [e1]
      exact he'
    · have hb' : b < s.heap.objs.size := by
        rcases (show b = e ∨ b = it by simpa using hb) with z | z
        · rw [z]; exact hel
        · rw [z]; exact hil
      rw [upd_ne (Nat.ne_of_lt hb')]
      exact (hf b hb).1
  done := by
    intro X hP hw hK hc i pins s σ H E I hf st hg
    subst hP hw hK
    obtain ⟨⟨old, he⟩, hit, hne⟩ := st
    obtain ⟨xs, hq, hx⟩ := hg
    obtain ⟨its, rv, p, hz⟩ := I.tuple hq
    obtain ⟨f0, f1, f2, f3, f4, f5⟩ := hf it (by simp)
    have hsz : its.toArray.size = i := by rw [List.size_toArray, hx]; exact rv.length.symm
    exact wpAny_pyNext_enum_endD (Draws.tuple (prog := X.prog) (w := X.w) (A := X.A.in1) (I.ok.hd hc) it a hai its.toArray) he (by rw [hsz]; exact ⟨hit, (show s.heap.IsTuple a its.toArray from p)⟩) fun h' eb => ⟨rfl, I.turned (t' := s.toks) (fun b o hb q => eb b o hb q) f0 f1 f3 f4 f5⟩
  self := fun A i s Q E st h => let ⟨⟨_, he⟩, _⟩ := st; wpAny_pyIter_enum he h
def iEnumT (K : PySem.W.Frag) (ta : TA) : TI := fun σ H R => ta σ H fun vs H1 => ∃ a xs, vs = [.ref a] ∧ SqT K H1 a xs ∧ R (IteT K a) H1
theorem pi_enumT {X : Cx} {e : Expr} {ta : TA} {p pos tpos : Pos} {elts : List Expr} {kk : Nat} (hg : Gl X "enumerate") (hm : X.mg "enumerate" = none) (ha : PA X [e] ta) (hs : starEach [e] X.env = [(false, eval e X.env)] := by rfl) :
    PI X (.Tuple elts kk tpos) (.Call (.Name "enumerate" p) [e] [] pos) (iEnumT X.K ta) := by
  refine ⟨fun pins s σ H R I h => ?_⟩
  refine Call_ (ld_blt I hg hm boot_enumerate (PyProof.Rows.callWith_type1 (thn (ha.run pos pins s σ H _ I h) fun us s1 ⟨vs, H1, I1, r1, q1⟩ => ?_) hs rfl))
  obtain ⟨a, xs, ex, hq, q⟩ := q1
  subst ex
  obtain rfl := Vals.ref1 r1
  obtain ⟨its, rv, p', hz⟩ := I1.tuple hq
  have la : a < s1.heap.objs.size := p'.lt
  refine enum1_begins (begins_tuple a its.toArray) (show s1.heap.IsTuple a its.toArray from p') fun h' he hit hk => wpAny_pyIter_enum he ?_
  have I2 : Inv X pins σ H1 { s1 with heap := h' } := I1.kept (t' := s1.toks) hk
  refine ⟨s1.heap.objs.size + 1, [s1.heap.objs.size + 1, s1.heap.objs.size], _, _, H1, rfl, I2, turn_enumT a (s1.heap.objs.size + 1) s1.heap.objs.size (Nat.ne_of_lt la) (Nat.ne_of_lt (Nat.lt_succ_of_lt la)), ⟨⟨.none, he⟩, ⟨_, hit, rfl, rfl⟩, Nat.succ_ne_self _⟩, fun b hb => ?_, q⟩
  have hle : s1.heap.objs.size ≤ b := by
    rcases (show b = s1.heap.objs.size + 1 ∨ b = s1.heap.objs.size by simpa using hb) with z | z
    · rw [z]; exact Nat.le_add_right _ _
    · rw [z]; exact Nat.le_refl _
  exact I1.fpOk hle (I1.hok.fresh hle)
theorem walk_enumT {K : PySem.W.Frag} {a : Addr} {xs : List V} : Walk (IteT K a) xs.length (fun H => SqT K H a xs) (YPair (fun i => some (.int (i : Nat))) (fun i => xs[i]?)) := by
  refine ⟨fun i _ hi q => ⟨xs, xs[i], q, by simp [hi]⟩, fun _ q => ⟨xs, q, rfl⟩, fun i H v H' _ q y => ?_⟩
  obtain ⟨t, x, h1, h2, h3, h4⟩ := y
  exact ⟨t, .int (i : Nat), x, h1, h2, h3, rfl, h4 xs q⟩
/-! ### any of ints -/
theorem truth_ints {prog : Program} {w : World} {A : Around} {ns : List Int} {its : List Value} (e : IntsAre its ns) :
    TruthOf prog w A (fun i v => its.toArray[i]? = some v) (fun i => (ns.getD i 0) != 0) := fun i v s Q E hv hq => by
  have hv' : its[i]? = some v := by simpa using hv
  have hl : i < its.length := (List.getElem?_eq_some_iff.mp hv').1
  have hn : i < ns.length := by rw [← e.length]; exact hl
  obtain ⟨t, rfl⟩ : ∃ t, v = Value.int (ns.getD i 0) t := by
    have r := vals_of_ints e
    have q : (ns.map V.int)[i]? = some (V.int (ns.getD i 0)) := by
      rw [List.getElem?_map, List.getElem?_eq_getElem hn, List.getD_eq_getElem?_getD, List.getElem?_eq_getElem hn]
      rfl
    obtain ⟨u, hu, ru⟩ := r.get q
    obtain rfl : u = v := Option.some.inj (hu.symm.trans hv')
    exact ru
  exact PySem.P.truthy_int hq
theorem any_ints : ∀ ns : List Int, (List.range ns.length).any (fun i => (ns.getD i 0) != 0) = ns.any (fun n => n != 0)
  | [] => rfl
  | n :: ns => by
    rw [List.length_cons, List.range_succ_eq_map, List.any_cons, List.any_map, List.any_cons, ← any_ints ns]
    all_goals rfl
section
variable {X : Cx}
def rAnyI (K : PySem.W.Frag) : Pr := fun vs H Q => ∃ (a : Addr) (ns : List Int), vs = [V.ref a] ∧ SqL K H a (ns.map V.int) ∧ Q (.bl (ns.any fun n => n != 0)) H
theorem cr_anyI (hc : X.calm = true) : CallR X (.builtin "any") (rAnyI X.K) := by
  intro pins s σ H vs us Q I r h
  obtain ⟨a, ns, rfl, hs, q⟩ := h
  obtain ⟨its, rv, hl, _⟩ := I.list hs
  rw [Vals.ref1 r]
  refine call_any_walk (iter_any hl.isList fun s₂ e2 st hne => ?_)
  subst e2
  refine ⟨_, _, _, _, _, _, _, rfl, Walks.list (A := X.A.in1) (I.ok.hd hc) _ a hne its.toArray, st, truth_ints rv.ints, fun h' tk hk => ?_⟩
  refine ⟨.bl _, H, I.kept fun b o eo => hk b o (fun hmem => ?_) (Heap.get?_push_of_some _ eo), ?_, q⟩
  · rcases List.mem_cons.mp hmem with e1 | hmem
    · exact absurd (e1 ▸ Heap.lt_size eo) (Nat.lt_irrefl _)
    · cases hmem
  · show Value.bool _ = Value.bool _
    have el : its.toArray.size = ns.length := by rw [List.size_toArray, ← rv.length, List.length_map]
    rw [← any_ints, el]
/-! ### max of a tuple of ints -/
def rMaxT (K : PySem.W.Frag) : Pr := fun vs H Q => ∃ (a : Addr) (n : Int) (ns : List Int), vs = [V.ref a] ∧ SqT K H a ((n :: ns).map V.int) ∧ Q (.int (PySem.W.maxOf n ns)) H
theorem holdAll_ints {h : Heap} : ∀ {vs : List Value} {ns : List Int}, IntsAre vs ns → PySem.W.HoldAll h vs ns := fun e => PySem.W.HoldAll.of_ints e
theorem cr_maxT (hc : X.calm = true) (hu : X.A.units + 64 < cLine) : CallR X (.builtin "max") (rMaxT X.K) := by
  intro pins s σ H vs us Q I r h
  obtain ⟨a, n, ns, rfl, hs, q⟩ := h
  obtain ⟨its, rv, hl, _⟩ := I.tuple hs
  rw [Vals.ref1 r]
  refine PySem.W.max_tuple_datum (x := n) (xs := ns) (I.ok.hd hc) (show s.heap.IsTuple a its.toArray from hl) (by simpa using holdAll_ints (Vals.ints rv)) (by show X.A.units + 1 + 0 < cLine; omega) fun i v h' tk _ hv hk => ?_
  obtain ⟨t, rfl⟩ := PySem.W.int_of_holds hv
  exact ⟨.int _, H, I.kept hk, ⟨t, rfl⟩, q⟩
/-! ### d[k] = v as a target -/
def rSetD : TSet := fun o i v H Q => ∃ a H', o = .ref a ∧ DPut H a i v H' ∧ Q H'
theorem set_dict (hu : X.A.units + 1 < cLine) : PSet X rSetD := by
  intro pins s σ H o i v ov iv u Q I ro ri rv h
  obtain ⟨a, H', rfl, g, q⟩ := h
  cases (show ov = Value.ref a from ro)
  exact d_setItem hu I g ri rv fun s' I' => ⟨H', I', q⟩
/-! ### list(d.values()) -/
def tListVals (te : TE) : TE := fun σ H Q => te σ H fun x H1 => ∃ (d : Addr) (kvs : List (Key × V)), x = .ref d ∧ Rd H1 d (.dK kvs) ∧ ∀ p, H1 p = none → Q (.ref p) (upd H1 p (.lst (kvs.map (·.2))))
theorem pe_listVals {e : Expr} {te : TE} {p apos cpos pos : Pos} (hc : X.calm = true) (he : PE X e te) (hg : Gl X "list") (hm : X.mg "list" = none) (hv : bootBuiltins "list" = some (.type "list")) (hbase : attributeBase e "values" X.env (eval e X.env) = eval e X.env := by rfl) (hline : (apos.endLine == cpos.line) = true := by rfl)
    (hs : starEach [.Call (.Attribute e "values" apos) [] [] cpos] X.env = (false, eval (.Call (.Attribute e "values" apos) [] [] cpos) X.env) :: starEach [] X.env := by rfl) :
    PE X (.Call (.Name "list" p) [.Call (.Attribute e "values" apos) [] [] cpos] [] pos) (tListVals te) := by
  refine ⟨fun pins s σ H Q I hq => wpAny_Call_Name_kw (ld_blt I hg hm hv (PyProof.Rows.callWith_type1 ?_ hs rfl))⟩
  rw [hs]
  show wpAny _ _ (spliced ((false, eval (.Call (.Attribute e "values" apos) [] [] cpos) X.env) :: backTo pos (starEach [] X.env))) _ _ s
  refine Calls.spliced_cons (wpAny_Call_method (T := "dict") (id := "dict.values") hbase rfl hline F.plainAttrs_dict F.slot_dict_values F.type_dict_values (thn (he.run pins s σ H _ I hq) fun u s1 ⟨x, H1, I1, rx, d, kvs, ex, hd, q⟩ => ?_))
  subst ex
  obtain rfl : u = Value.ref d := rx
  obtain ⟨hz, hs0, vs, kv, hdo⟩ := dk_rd I1.hok hd
  obtain ⟨ep, hat⟩ := hdo.dictAt
  have lk : kvs.length = vs.length := Paired.length kv
  have I2 : Inv X pins σ H1 { s1 with heap := s1.heap.push { cls := .type "dict_values", data := .fields #[.ref d] } } := I1.kept (t' := s1.toks) fun b ob q => Heap.get?_push_of_some _ q
  refine ⟨hdo.typeIs, hdo.mapOf.noDict, ?_⟩
  show wpAny _ _ (callWith cpos (.builtin "dict.values") [.ref d] [] []) _ X.xe s1
  refine method_meetsIn F.slot_dict_values F.entry_dict_values rfl (PySem.evalArgs_none ⟨rfl, hdo.typeIs, F.args_dict_values_1 _, _, meets_dict_values (mixKind X.prog X.w) d hs0, ⟨vs, hdo⟩, ?_⟩)
  refine Calls.spliced_nil (PySem.W.kdl_call (PySem.W.kdl_values (knd := mixKind X.prog X.w) (kvs := vs) (ep := ep)) (I1.ok.hd hc) ⟨⟨_, Heap.get?_push_size _ rfl, rfl, rfl⟩, hat.push _⟩ (by omega) fun h' tk acc c hk hS hacc => ?_)
  refine ⟨.ref _, upd H1 _ (.lst (kvs.map (·.2))), I2.laid hk (Nat.le_refl _) (show ObjOk X.prog X.w _ _ _ (.lst (kvs.map (·.2))) from ⟨by rw [List.length_map]; exact hz, acc.toList, c, ?_, ?_⟩), rfl, q _ (I2.hok.fresh (Nat.le_refl _))⟩
  · have el : acc.toList.length = acc.size := by simp
    refine vals_of_at (by rw [List.length_map, el, hacc.1, lk]) fun j x w h1 h2 => ?_
    obtain ⟨k, hky⟩ := hacc.2 j w (by rw [← Array.getElem?_toList]; exact h2)
    rw [List.getElem?_map] at h1
    obtain ⟨kx, hkx, rfl⟩ := Option.map_eq_some_iff.mp h1
    obtain ⟨u, hu, ru⟩ := kv_get kv (k := kx.1) (v := kx.2) hkx
    rw [hu] at hky
    cases hky
    exact ru
  · rw [Array.toArray_toList]
    exact hS
end
end U

set_option Elab.async false
set_option linter.all false
set_option maxRecDepth 100000
set_option maxHeartbeats 4000000
/-! Standings as data, and how the heap bears them. -/
namespace U
open PySem PySem.Spec PyProof.Rows L2
/-- an item of a standing: nothing, or a kind and whether it was skipped -/
abbrev Item := Option (Str × Bool)
abbrev Stn := List Item
def itD : Item → PyData
  | none => .tuple []
  | some (k, b) => .tuple [.str k, .bool b]
def stD (st : Stn) : PyData := .tuple (st.map itD)
def itK : Item → NestedKey
  | none => .tup []
  | some (k, b) => .tup [.text k, .num (if b = true then 1 else 0)]
def stK (st : Stn) : NestedKey := .tup (st.map itK)
theorem itK_inj : ∀ {a b : Item}, itK a = itK b → a = b
  | none, none, _ => rfl
  | none, some (_, _), h => by simp [itK] at h
  | some (_, _), none, h => by simp [itK] at h
  | some (k, b), some (k', b'), h => by
    simp only [itK, NestedKey.tup.injEq, List.cons.injEq, NestedKey.text.injEq, NestedKey.num.injEq, and_true] at h
    obtain ⟨h1, h2⟩ := h
    subst h1
    cases b <;> cases b' <;> simp_all
theorem itKs_inj : ∀ {a b : Stn}, a.map itK = b.map itK → a = b
  | [], [], _ => rfl
  | [], _ :: _, h => by simp at h
  | _ :: _, [], h => by simp at h
  | x :: a, y :: b, h => by
    simp only [List.map_cons, List.cons.injEq] at h
    rw [itK_inj h.1, itKs_inj h.2]
theorem stK_inj {a b : Stn} (h : stK a = stK b) : a = b := itKs_inj (NestedKey.tup.inj h)
theorem itK_depth : ∀ it : Item, (itK it).depth ≤ 1
  | none => by simp [itK, NestedKey.depth, NestedKey.depthAll]
  | some (k, b) => by simp [itK, NestedKey.depth, NestedKey.depthAll]
theorem itKs_depth : ∀ st : Stn, NestedKey.depthAll (st.map itK) ≤ 1
  | [] => by simp [NestedKey.depthAll]
  | it :: st => by
    have h1 := itK_depth it
    have h2 := itKs_depth st
    simp only [List.map_cons, NestedKey.depthAll]
    omega
theorem stK_depth (st : Stn) : (stK st).depth ≤ 8 := by
  have h := itKs_depth st
  simp only [stK, NestedKey.depth]
  omega
theorem itD_depth : ∀ it : Item, (itD it).depth ≤ 1
  | none => by simp [itD, PyData.depth, PyData.depthAll]
  | some (k, b) => by simp [itD, PyData.depth, PyData.depthAll]
theorem itDs_depth : ∀ st : Stn, PyData.depthAll (st.map itD) ≤ 1
  | [] => by simp [PyData.depthAll]
  | it :: st => by
    have h1 := itD_depth it
    have h2 := itDs_depth st
    simp only [List.map_cons, PyData.depthAll]
    omega
theorem stD_depth (st : Stn) : (stD st).depth ≤ 2 := by
  have h := itDs_depth st
  simp only [stD, PyData.depth]
  omega
theorem itD_plain : ∀ it : Item, (itD it).plain = true
  | none => by simp [itD, PyData.plain, PyData.plainAll]
  | some (k, b) => by simp [itD, PyData.plain, PyData.plainAll]
theorem itDs_plain : ∀ st : Stn, PyData.plainAll (st.map itD) = true
  | [] => by simp [PyData.plainAll]
  | it :: st => by simp [PyData.plainAll, itD_plain, itDs_plain st]
theorem stD_plain (st : Stn) : (stD st).plain = true := by
  show PyData.plain (.tuple (st.map itD)) = true
  simp only [PyData.plain, itDs_plain]
theorem stDs_plain : ∀ l : List Stn, PyData.plainAll (l.map stD) = true
  | [] => by simp [PyData.plainAll]
  | st :: l => by simp [PyData.plainAll, stD_plain, stDs_plain l]
theorem stDs_depth : ∀ l : List Stn, PyData.depthAll (l.map stD) ≤ 2
  | [] => by simp [PyData.depthAll]
  | st :: l => by
    have h1 := stD_depth st
    have h2 := stDs_depth l
    simp only [List.map_cons, PyData.depthAll]
    omega
theorem itD_eqv : ∀ a b : Item, PyData.eqv (itD a) (itD b) = decide (a = b)
  | none, none => by simp [itD, PyData.eqv, PyData.eqvAll]
  | none, some (_, _) => by simp [itD, PyData.eqv, PyData.eqvAll]
  | some (_, _), none => by simp [itD, PyData.eqv, PyData.eqvAll]
  | some (k, b), some (k', b') => by
    simp only [itD, PyData.eqv, PyData.eqvAll, Bool.and_true]
    by_cases h1 : k = k'
    · subst h1
      by_cases h2 : b = b'
      · subst h2
        simp
      · have e : (b == b') = false := beq_eq_false_iff_ne.mpr h2
        rw [e, Bool.and_false]
        exact (decide_eq_false (fun q => h2 (by injection q with q; injection q))).symm
    · have e : (k == k') = false := beq_eq_false_iff_ne.mpr h1
      rw [e, Bool.false_and]
      exact (decide_eq_false (fun q => h1 (by injection q with q; injection q))).symm
theorem itDs_eqv : ∀ a b : Stn, PyData.eqvAll (a.map itD) (b.map itD) = decide (a = b)
  | [], [] => by simp [PyData.eqvAll]
  | [], _ :: _ => by simp [PyData.eqvAll]
  | _ :: _, [] => by simp [PyData.eqvAll]
  | x :: a, y :: b => by
    simp only [List.map_cons, PyData.eqvAll, itD_eqv, itDs_eqv a b]
    by_cases h1 : x = y
    · subst h1
      by_cases h2 : a = b
      · subst h2
        simp
      · simp [h2]
    · simp [h1]
theorem stD_eqv (a b : Stn) : PyData.eqv (stD a) (stD b) = decide (a = b) := by
  show PyData.eqv (.tuple (a.map itD)) (.tuple (b.map itD)) = _
  simp only [PyData.eqv, itDs_eqv]
theorem itD_alike : ∀ a b : Item, PySem.W.alike (itD a) (itD b) = true
  | none, none => by simp [itD, PySem.W.alike, PySem.W.alikeAll]
  | none, some (_, _) => by simp [itD, PySem.W.alike, PySem.W.alikeAll]
  | some (_, _), none => by simp [itD, PySem.W.alike, PySem.W.alikeAll]
  | some (_, _), some (_, _) => by simp [itD, PySem.W.alike, PySem.W.alikeAll]
theorem itDs_alike : ∀ a b : Stn, PySem.W.alikeAll (a.map itD) (b.map itD) = true
  | [], _ => by simp [PySem.W.alikeAll]
  | _ :: _, [] => by simp [PySem.W.alikeAll]
  | x :: a, y :: b => by simp only [List.map_cons, PySem.W.alikeAll, itD_alike, itDs_alike a b, Bool.and_self]
theorem stD_alike (a b : Stn) : PySem.W.alike (stD a) (stD b) = true := by
  show PySem.W.alike (.tuple (a.map itD)) (.tuple (b.map itD)) = true
  simp only [PySem.W.alike, itDs_alike]
/-! ### in the heap -/
/-- v is the item it -/
def ItAt (H : Hp) (v : V) : Item → Prop
  | none => ∃ a, v = .ref a ∧ H a = some (.tup [])
  | some (k, b) => ∃ a, v = .ref a ∧ H a = some (.tup [.str k, .bl b])
/-- at t: the standing st -/
def StAt (H : Hp) (t : Addr) (st : Stn) : Prop := ∃ xs, H t = some (.tup xs) ∧ Paired (ItAt H) xs st
/-- tuples are kept -/
def Tk (H H' : Hp) : Prop := ∀ a xs, H a = some (.tup xs) → H' a = some (.tup xs)
theorem Tk.refl (H : Hp) : Tk H H := fun _ _ h => h
theorem Tk.trans {H H1 H2 : Hp} (a : Tk H H1) (b : Tk H1 H2) : Tk H H2 := fun p xs h => b p xs (a p xs h)
theorem _root_.L2.Same.tk {H H' : Hp} (e : Same H H') : Tk H H' := fun _ _ h => e _ _ h
theorem Tk.new {H : Hp} {p : Addr} {o : HO} (h : H p = none) : Tk H (upd H p o) := fun a xs e => by rw [upd_ne (ne_of_none e h)]; exact e
theorem Tk.at {H : Hp} {p : Addr} {o u : HO} (h : H p = some u) (hu : ∀ xs, u ≠ .tup xs) : Tk H (upd H p o) := fun a xs e => by
  rw [upd_ne (ne_of e h (fun z => hu xs z.symm))]
  exact e
theorem ItAt.mono {H H' : Hp} (k : Tk H H') {v : V} : ∀ {it : Item}, ItAt H v it → ItAt H' v it
  | none, ⟨a, e, h⟩ => ⟨a, e, k a _ h⟩
  | some (_, _), ⟨a, e, h⟩ => ⟨a, e, k a _ h⟩
theorem StAt.mono {H H' : Hp} (k : Tk H H') {t : Addr} {st : Stn} (h : StAt H t st) : StAt H' t st := let ⟨xs, h1, h2⟩ := h; ⟨xs, k t _ h1, Paired.mapP h2 fun _ _ z => z.mono k⟩
theorem ItAt.dp {K : PySem.W.Frag} {H : Hp} {v : V} : ∀ {it : Item}, ItAt H v it → Dp K H v (itD it)
  | none, ⟨a, e, h⟩ => by rw [e]; exact .tup (SqT.of h) .nil
  | some (k, b), ⟨a, e, h⟩ => by rw [e]; exact .tup (SqT.of h) (.cons (.str k) (.cons (.bl b) .nil))
theorem its_dp {K : PySem.W.Frag} {H : Hp} : ∀ {xs : List V} {st : Stn}, Paired (ItAt H) xs st → DpAll K H xs (st.map itD)
  | _, _, .nil => .nil
  | _, _, .cons h t => .cons h.dp (its_dp t)
theorem StAt.dp {K : PySem.W.Frag} {H : Hp} {t : Addr} {st : Stn} (h : StAt H t st) : Dp K H (.ref t) (stD st) := let ⟨_, h1, h2⟩ := h; .tup (SqT.of h1) (its_dp h2)
theorem StAt.len {H : Hp} {t : Addr} {st : Stn} {xs : List V} (h : StAt H t st) (e : H t = some (.tup xs)) : xs.length = st.length := by
  obtain ⟨ys, h1, h2⟩ := h
  rw [e] at h1
  cases h1
  exact Paired.length h2
/-- standings in a list -/
def StsAt (H : Hp) (ts : List Addr) (l : List Stn) : Prop := Paired (StAt H) ts l
theorem sts_dp {K : PySem.W.Frag} {H : Hp} : ∀ {ts : List Addr} {l : List Stn}, StsAt H ts l → DpAll K H (ts.map V.ref) (l.map stD)
  | _, _, .nil => .nil
  | _, _, .cons h t => .cons h.dp (sts_dp t)
theorem StsAt.mono {H H' : Hp} (k : Tk H H') {ts : List Addr} {l : List Stn} (h : StsAt H ts l) : StsAt H' ts l := Paired.mapP h fun _ _ z => z.mono k
theorem any_st (l : List Stn) (st : Stn) : ((l.map stD).any fun z => PyData.eqv z (stD st)) = decide (st ∈ l) := by
  induction l with
  | nil => simp
  | cons a l ih =>
    simp only [List.map_cons, List.any_cons, ih, stD_eqv]
    by_cases h : a = st
    · subst h
      simp
    · have h' : ¬ st = a := fun q => h q.symm
      simp [h, h']
/-! as a key of a dict -/
section
variable {X : Cx} {pins : List (Addr × Obj)} {σ : L2.St} {H : Hp} {s : Shared}
theorem it_key (I : Inv X pins σ H s) {v : V} {u : Value} (r : RelV v u) : ∀ {it : Item}, ItAt H v it → NestedIs s.heap (itK it) u
  | none, ⟨a, e, h⟩ => by
    subst e
    cases r
    obtain ⟨_, its, rv, o, ho, hc, n, hd⟩ := I.hok a _ h
    cases rv
    exact .tup ho hc hd .nil
  | some (k, b), ⟨a, e, h⟩ => by
    subst e
    cases r
    obtain ⟨_, its, rv, o, ho, hc, n, hd⟩ := I.hok a _ h
    obtain ⟨u1, u2, rfl, r1, r2⟩ := vals2 rv
    obtain ⟨t, rfl⟩ := (show ∃ t, u1 = Value.str k t from r1)
    cases (show u2 = Value.bool b from r2)
    exact .tup ho hc hd (.cons (.text k t) (.cons (.bool rfl) .nil))
theorem its_key (I : Inv X pins σ H s) : ∀ {xs : List V} {st : Stn} {us : List Value}, Paired (ItAt H) xs st → Vals xs us → NestedAll s.heap (st.map itK) us
  | _, _, _, .nil, .nil => .nil
  | _, _, _, .cons h t, .cons r rr => .cons (it_key I r h) (its_key I t rr)
theorem st_key (I : Inv X pins σ H s) {t : Addr} {st : Stn} (h : StAt H t st) : (nestedKind X.prog X.w).is s.heap (stK st) t := by
  obtain ⟨xs, h1, h2⟩ := h
  obtain ⟨_, its, rv, o, ho, hc, n, hd⟩ := I.hok t _ h1
  exact ⟨.tup ho hc hd (by simpa using its_key I h2 rv), stK_depth st⟩
end
/-! ### == and in of plain data (texts of any signs) -/
section
variable {X : Cx}
def rEqP (K : PySem.W.Frag) : R2 := fun x y H Q => ∃ d e, Dp K H x d ∧ Dp K H y e ∧ d.plain = true ∧ e.plain = true ∧ d.depth ≤ 60 ∧ Q (.bl (PyData.eqv d e)) H
def rNeP (K : PySem.W.Frag) : R2 := fun x y H Q => ∃ d e, Dp K H x d ∧ Dp K H y e ∧ d.plain = true ∧ e.plain = true ∧ d.depth ≤ 60 ∧ Q (.bl (!PyData.eqv d e)) H
theorem op_eqP {K : PySem.W.Frag} (hK : X.K = K) (hu : X.A.units + 64 < cLine) : OpR X (compareOp .Eq) (rEqP K) := by
  subst hK
  intro pins s σ H x y v u Q I rx ry h
  obtain ⟨d, e, hd, he, pd, pe, hz, q⟩ := h
  obtain ⟨as, r1⟩ := Dp.reads I d x v hd rx
  obtain ⟨bs, r2⟩ := Dp.reads I e y u he ry
  exact SeqAt.eq_plain r1 r2 pd pe (by have := Nat.min_le_left d.depth e.depth; omega) ⟨.bl _, H, I, rfl, q⟩
theorem op_neP {K : PySem.W.Frag} (hK : X.K = K) (hu : X.A.units + 64 < cLine) : OpR X (compareOp .NotEq) (rNeP K) := by
  subst hK
  intro pins s σ H x y v u Q I rx ry h
  obtain ⟨d, e, hd, he, pd, pe, hz, q⟩ := h
  obtain ⟨as, r1⟩ := Dp.reads I d x v hd rx
  obtain ⟨bs, r2⟩ := Dp.reads I e y u he ry
  exact SeqAt.ne_plain r1 r2 pd pe (by have := Nat.min_le_left d.depth e.depth; omega) ⟨.bl _, H, I, rfl, q⟩
def rInP (K : PySem.W.Frag) (neg : Bool) : R2 := fun x y H Q => ∃ d ds, Dp K H x d ∧ Dp K H y (.list ds) ∧ d.plain = true ∧ PyData.plainAll ds = true ∧ d.depth ≤ 60 ∧ Q (.bl (if neg then !(ds.any fun z => PyData.eqv z d) else ds.any fun z => PyData.eqv z d)) H
theorem op_inP {K : PySem.W.Frag} (hK : X.K = K) (hu : X.A.units + 65 < cLine) : OpR X (compareOp .In) (rInP K false) := by
  subst hK
  intro pins s σ H x y v u Q I rx ry h
  obtain ⟨d, ds, hd, he, pd, pe, hz, q⟩ := h
  obtain ⟨as, r1⟩ := Dp.reads I d x v hd rx
  obtain ⟨bs, r2⟩ := Dp.reads I (.list ds) y u he ry
  exact SeqAt.in_list_data r2 r1 pe pd (by have := Nat.min_le_right (PyData.depthAll ds) d.depth; omega) ⟨.bl _, H, I, rfl, q⟩
theorem op_notInP {K : PySem.W.Frag} (hK : X.K = K) (hu : X.A.units + 65 < cLine) : OpR X (compareOp .NotIn) (rInP K true) := by
  subst hK
  intro pins s σ H x y v u Q I rx ry h
  obtain ⟨d, ds, hd, he, pd, pe, hz, q⟩ := h
  obtain ⟨as, r1⟩ := Dp.reads I d x v hd rx
  obtain ⟨bs, r2⟩ := Dp.reads I (.list ds) y u he ry
  exact SeqAt.notIn_list_data r2 r1 pe pd (by have := Nat.min_le_right (PyData.depthAll ds) d.depth; omega) ⟨.bl _, H, I, rfl, q⟩
end
end U

set_option Elab.async false
set_option linter.all false
set_option maxRecDepth 100000
set_option maxHeartbeats 4000000
/-! A dict whose keys are standings: display, not in, store, sorted. -/
namespace U
open PySem PySem.Spec PyProof.Rows L2
/-- what an entry of the dict is known to be -/
abbrev EntN (H : Hp) (x : NestedKey × Addr × Value) (st : Stn) : Prop := x.1 = stK st ∧ StAt H x.2.1 st
/-- at d: a dict whose keys are the standings l, in their order -/
def NDict (P : Program) (w : World) (H : Hp) (d : Addr) (l : List Stn) : Prop :=
  ∃ (xs : List (NestedKey × Addr × Value)) (ob : Obj) (es : Array DictEntry) (ep : Nat), H d = some (.ext fun h => h.get? d = some ob) ∧ ob.ExactDict ∧ ob.data = .dict es ep ∧ es.toList = xs.map (entryOfKey (nestedKind P w)) ∧
    (xs.map (·.1)).Nodup ∧ Paired (EntN H) xs l ∧ (d == sysModules) = false
theorem keys_of_ents {H : Hp} : ∀ {xs : List (NestedKey × Addr × Value)} {l : List Stn}, Paired (EntN H) xs l → xs.map (·.1) = l.map stK
  | _, _, .nil => rfl
  | _, _, .cons h t => by rw [List.map_cons, List.map_cons, h.1, keys_of_ents t]
theorem NDict.nodup {P : Program} {w : World} {H : Hp} {d : Addr} {l : List Stn} (N : NDict P w H d l) : l.Nodup := by
  obtain ⟨xs, ob, es, ep, _, _, _, _, nd, pr, _⟩ := N
  rw [keys_of_ents pr] at nd
  exact List.Pairwise.of_map (S := fun a b => a ≠ b) stK (fun a b h e => h (by rw [e])) nd
theorem NDict.mono {P : Program} {w : World} {H H' : Hp} {d : Addr} {l : List Stn} (k : Tk H H') (e : ∀ o, H d = some o → H' d = some o) (N : NDict P w H d l) : NDict P w H' d l := by
  obtain ⟨xs, ob, es, ep, h1, h2, h3, h4, h5, h6, h7⟩ := N
  exact ⟨xs, ob, es, ep, e _ h1, h2, h3, h4, h5, Paired.mapP h6 fun _ _ z => ⟨z.1, z.2.mono k⟩, h7⟩
theorem atKey_ents {H : Hp} {st : Stn} : ∀ {xs : List (NestedKey × Addr × Value)} {l : List Stn}, Paired (EntN H) xs l → (atKey xs (stK st)).isSome = decide (st ∈ l)
  | _, _, .nil => by simp [atKey]
  | x :: r, s0 :: _, .cons h t => by
    have ih := atKey_ents (st := st) t
    by_cases e : st = s0
    · have : x.1 = stK st := by rw [e]; exact h.1
      simp [atKey, this, e]
    · have : ¬ x.1 = stK st := fun q => e (stK_inj (q.symm.trans h.1))
      have e3 : atKey (x :: r) (stK st) = atKey r (stK st) := by
        unfold atKey
        rw [List.find?_cons_of_neg (by simpa using this)]
      rw [e3, ih]
      simp [e]
section
variable {X : Cx} {pins : List (Addr × Obj)} {σ : L2.St} {H : Hp} {s : Shared} {d : Addr} {l : List Stn}
theorem ents_key (I : Inv X pins σ H s) : ∀ {xs : List (NestedKey × Addr × Value)} {l : List Stn}, Paired (EntN H) xs l → ∀ x ∈ xs, (nestedKind X.prog X.w).is s.heap x.1 x.2.1
  | _, _, .nil, x, hx => by cases hx
  | _, _, .cons h t, x, hx => by
    rcases List.mem_cons.mp hx with rfl | hx
    · rw [h.1]
      exact st_key I h.2
    · exact ents_key I t x hx
theorem nd_heap (I : Inv X pins σ H s) {xs : List (NestedKey × Addr × Value)} {ob : Obj} {es : Array DictEntry} {ep : Nat} (h1 : H d = some (.ext fun h => h.get? d = some ob)) (h2 : ob.ExactDict) (h3 : ob.data = .dict es ep) (h4 : es.toList = xs.map (entryOfKey (nestedKind X.prog X.w)))
    (h5 : (xs.map (·.1)).Nodup) (h6 : Paired (EntN H) xs l) : s.heap.DictOfH (nestedKind X.prog X.w) d xs :=
  ⟨ob, es, ep, (I.hok d _ h1).1, h2, h3, h4, ents_key I h6, h5⟩
theorem nest_room {A : Around} (h : A.units + 64 < cLine) : (nestedKind X.prog X.w).room A.in1 := by
  show A.units + 1 + 8 < cLine
  omega
/-- the dict written anew -/
theorem nd_write {h' : Heap} {t' : Nat} {xs' : List (NestedKey × Addr × Value)} {l' : List Stn} (I : Inv X pins σ H s) (mu : Mut (H d)) (hnt : ∀ xs, H d ≠ some (.tup xs)) (hd : (d == sysModules) = false) (hm : h'.DictOfH (nestedKind X.prog X.w) d xs') (hs : Heap.SameBut d s.heap h') (pr : Paired (EntN H) xs' l') :
    ∃ H', Inv X pins σ H' { s with heap := h', toks := t' } ∧ NDict X.prog X.w H' d l' ∧ (∀ b, b ≠ d → H' b = H b) ∧ Tk H H' := by
  obtain ⟨ob, es, ep, ho, hx, hdt, he, his, hn⟩ := hm
  have tk : Tk H (upd H d (.ext fun h => h.get? d = some ob)) := fun a xs e => by
    rw [upd_ne (fun z => hnt xs (by rw [← z]; exact e))]
    exact e
  refine ⟨upd H d (.ext fun h => h.get? d = some ob), I.write mu (.inl rfl) (fun b u hb e => (hs.2 b hb).trans e) ⟨_, ho⟩ ⟨ho, ⟨_, ho⟩, fun h1 h2 q k => k _ q⟩, ?_, fun b hb => upd_ne hb, tk⟩
  exact ⟨xs', ob, es, ep, upd_same, hx, hdt, he, hn, Paired.mapP pr fun _ _ z => ⟨z.1, z.2.mono tk⟩, hd⟩
theorem storedH_ents {H : Hp} {t : Addr} {st : Stn} {v : Value} (ht : StAt H t st) {xs : List (NestedKey × Addr × Value)} {l : List Stn} (pr : Paired (EntN H) xs l) (hn : st ∉ l) : Paired (EntN H) (storedH xs (stK st) t v) (l ++ [st]) := by
  have e : (atKey xs (stK st)).isSome = false := by rw [atKey_ents pr]; exact decide_eq_false hn
  have e2 : storedH xs (stK st) t v = xs ++ [(stK st, t, v)] := by
    unfold storedH
    rw [e]
    rfl
  rw [e2]
  have app : ∀ {a : List (NestedKey × Addr × Value)} {b : List Stn}, Paired (EntN H) a b → Paired (EntN H) (a ++ [(stK st, t, v)]) (b ++ [st]) := by
    intro a b q
    induction q with
    | nil => exact .cons ⟨rfl, ht⟩ .nil
    | cons h _ ih => exact .cons h ih
  exact app pr
end
/-! ### the rules -/
section
variable {X : Cx}
/-- {start: v} -/
def tDispN (P : Program) (w : World) (tk tv : TE) : TE := fun σ H Q => ∀ p, H p = none → tk σ (upd H p (.dK [])) fun k H1 => tv σ H1 fun _ H2 => H2 p = some (.dK []) ∧ ∃ t st, k = .ref t ∧ StAt H2 t st ∧ ∀ H3, NDict P w H3 p [st] → (∀ b, b ≠ p → H3 b = H2 b) → Q (.ref p) H3
theorem pe_dispN {k v : Expr} {tk tv : TE} {pos : Pos} (hu : X.A.units + 64 < cLine) (hk : PE X k tk) (hv : PE X v tv)
    (hshape : (evalEachOpt [some k] X.env).zip ((evalEach [v] X.env).map fun v => do let x ← v; standAt pos; pure x) = [(some (eval k X.env), do let x ← eval v X.env; standAt pos; pure x)] := by rfl) : PE X (.Dict [some k] [v] pos) (tDispN X.prog X.w tk tv) := by
  refine ⟨fun pins s σ H Q I q => ?_⟩
  have hn := I.hok.fresh (Nat.le_refl s.heap.objs.size)
  have I1 := I.laid (a := s.heap.objs.size) (o := .dK []) (h' := s.heap.push { cls := .type "dict", data := .dict #[] }) (t' := s.toks) (fun _ _ q => Heap.get?_push_of_some _ q) (Nat.le_refl _) (dk_empty s.heap I.big)
  have room : (nestedKind X.prog X.w).room X.A := by show X.A.units + 8 < cLine; omega
  rw [arm_eval_Dict, show (evalEachOpt [some k] X.env).zip ((evalEach [v] X.env).map fun v => do let x ← v; standAt pos; pure x) = ([(eval k X.env, do let x ← eval v X.env; standAt pos; pure x)] : List (Sem Value × Sem Value)).map fun p => (some p.1, p.2) from hshape, dictDisplay_pairs _ (by simp) (by show 1 < 17; decide)]
  refine wpAny_bind (wpAny_standAt (wpAny_bind (wpAny_subDictH (knd := nestedKind X.prog X.w) (Q := fun d s' => wpAny (model X.prog X.w) X.A (pure (Value.ref d)) (EP X pins σ Q) X.xe s') room (by show 1 ≤ 15; decide) ?_)))
  refine wpAny_bind (thn (hk.run pins _ σ _ _ I1 (q _ hn)) fun kv s1 ⟨x, H1, I2, rx, q1⟩ => ?_)
  refine wpAny_bind (wpAny_holding (wpAny_bind (thn (hv.run pins s1 σ H1 _ I2 q1) fun vv s2 ⟨y, H2, I3, ry, e, t, st, ex, ht, q2⟩ => wpAny_bind (wpAny_standAt (wpAny_pure ?_)))))
  subst ex
  cases (show kv = Value.ref t from rx)
  refine wpAny_bind (wpAny_holding (wpAny_pure (wpAny_pure ?_)))
  obtain ⟨z, hd, vs0, r0, dd⟩ := dk_of I3.hok e
  cases r0
  have hm0 : s2.heap.DictOfH (nestedKind X.prog X.w) s.heap.objs.size [] := by
    obtain ⟨o, es, ep, ho, hx, hdt, hr⟩ := dd
    refine ⟨o, es, ep, ho, hx, hdt, ?_, fun x hx => (by cases hx), List.nodup_nil⟩
    have : es.toList.length = 0 := by
      have := hr.2.1.length
      simpa using this
    exact List.eq_nil_of_length_eq_zero this
  refine ⟨[(stK st, t, vv)], ⟨rfl, rfl, st_key I3 ht, trivial⟩, hm0, fun h' tk hm hs => wpAny_pure ?_⟩
  obtain ⟨H3, I4, N, ho, tkk⟩ := nd_write (t' := tk) I3 (by rw [e]; trivial) (fun xs z => by rw [e] at z; cases z) hd hm hs (l' := [st]) (storedH_ents (v := vv) ht .nil (by simp))
  exact ⟨.ref _, H3, I4, rfl, q2 H3 N ho⟩
/-- t not in d -/
def rNotN (P : Program) (w : World) : R2 := fun x y H Q => ∃ t d st l, x = .ref t ∧ y = .ref d ∧ StAt H t st ∧ NDict P w H d l ∧ Q (.bl (!decide (st ∈ l))) H
theorem op_notN (hu : X.A.units + 64 < cLine) : OpR X (compareOp .NotIn) (rNotN X.prog X.w) := by
  intro pins s σ H x y v u Q I rx ry h
  obtain ⟨t, d, st, l, rfl, rfl, ht, N, q⟩ := h
  cases (show v = Value.ref t from rx)
  cases (show u = Value.ref d from ry)
  obtain ⟨xs, ob, es, ep, h1, h2, h3, h4, h5, h6, h7⟩ := N
  refine wpAny_notIn_heap (nest_room (X := X) hu) (st_key I ht) h7 (nd_heap I h1 h2 h3 h4 h5 h6) ?_
  rw [atKey_ents h6]
  exact ⟨.bl _, H, I.tok _, rfl, q⟩
/-- d[t] = v, t not in d -/
def rSetN (P : Program) (w : World) : TSet := fun o i _ H Q => ∃ d t st l, o = .ref d ∧ i = .ref t ∧ StAt H t st ∧ NDict P w H d l ∧ st ∉ l ∧ l.length ≤ 1000 ∧ ∀ H', NDict P w H' d (l ++ [st]) → (∀ b, b ≠ d → H' b = H b) → Q H'
theorem set_N (hu : X.A.units + 64 < cLine) : PSet X (rSetN X.prog X.w) := by
  intro pins s σ H o i v ov iv u Q I ro ri rv h
  obtain ⟨d, t, st, l, rfl, rfl, ht, N, hn, hl, q⟩ := h
  cases (show ov = Value.ref d from ro)
  cases (show iv = Value.ref t from ri)
  obtain ⟨xs, ob, es, ep, h1, h2, h3, h4, h5, h6, h7⟩ := N
  refine wpAny_setItem_heap (nest_room (X := X) hu) (st_key I ht) (nd_heap I h1 h2 h3 h4 h5 h6) (fun h' hm hs => ?_) (by rw [Paired.length h6, sizeLine_eq]; omega)
  obtain ⟨H', I', N', ho, tkk⟩ := nd_write (t' := s.toks + (nestedKind X.prog X.w).draws (stK st)) I (by rw [h1]; trivial) (fun xs z => by rw [h1] at z; cases z) h7 hm hs (l' := l ++ [st]) (storedH_ents ht h6 hn)
  exact ⟨H', I', q H' N' ho⟩
end
/-! ### sorted(d) -/
theorem ents_refs {H : Hp} : ∀ {xs : List (NestedKey × Addr × Value)} {l : List Stn}, Paired (EntN H) xs l → PySem.W.EachIs (fun (v : Value) (st : Stn) => ∃ t, v = .ref t ∧ StAt H t st) (xs.map fun x => Value.ref x.2.1) l
  | _, _, .nil => .nil
  | _, _, .cons h t => .cons ⟨_, rfl, h.2⟩ (ents_refs t)
theorem each_addrs {H : Hp} : ∀ {vs : List Value} {l : List Stn}, PySem.W.EachIs (fun (v : Value) (st : Stn) => ∃ t, v = .ref t ∧ StAt H t st) vs l → ∃ ts : List Addr, vs = ts.map Value.ref ∧ StsAt H ts l
  | _, _, .nil => ⟨[], rfl, .nil⟩
  | _, _, .cons ⟨t, e, h⟩ r => by
    obtain ⟨ts, e2, h2⟩ := each_addrs r
    exact ⟨t :: ts, by rw [e, e2]; rfl, .cons h h2⟩
theorem each_perm {α β : Type} {R : α → β → Prop} {vs vs' : List α} (p : vs'.Perm vs) : ∀ {l : List β}, PySem.W.EachIs R vs l → ∃ l', l'.Perm l ∧ PySem.W.EachIs R vs' l' := by
  induction p with
  | nil => exact fun h => ⟨_, .refl _, h⟩
  | cons x _ ih =>
    intro l h
    cases h with
    | cons h1 h2 =>
      obtain ⟨l', p', h'⟩ := ih h2
      exact ⟨_, p'.cons _, .cons h1 h'⟩
  | swap x y r =>
    intro l h
    cases h with
    | cons h1 h2 =>
      cases h2 with
      | cons h3 h4 => exact ⟨_, .swap _ _ _, .cons h3 (.cons h1 h4)⟩
  | trans _ _ ih1 ih2 =>
    intro l h
    obtain ⟨l', p', h'⟩ := ih2 h
    obtain ⟨l'', p'', h''⟩ := ih1 h'
    exact ⟨l'', p''.trans p', h''⟩
theorem refs_vals : ∀ ts : List Addr, Vals (ts.map V.ref) (ts.map Value.ref)
  | [] => .nil
  | t :: ts => .cons rfl (refs_vals ts)
def rSortN (P : Program) (w : World) : Pr := fun vs H Q => ∃ (d : Addr) (l : List Stn) (n : Nat), vs = [.ref d] ∧ NDict P w H d l ∧ (∀ st ∈ l, st.length = n) ∧ l.length ≤ 1000 ∧
  ∀ (p : Addr) (l' : List Stn) (ts : List Addr), H p = none → l'.Perm l → StsAt H ts l' → Q (.ref p) (upd H p (.lst (ts.map V.ref)))
section
variable {X : Cx} {pins : List (Addr × Obj)} {σ : L2.St} {H : Hp} {s : Shared}
theorem readsAll0 {h : Heap} {us : List Value} {as : List Addr} (r : ReadsAll h us [] as) : as = [] := by
  cases r
  rfl
theorem readsAll2 {h : Heap} {us : List Value} {as : List Addr} {k : Str} {b : Bool} (r : ReadsAll h us [.str k, .bool b] as) : as = [] := by
  cases r with
  | cons h5 h6 =>
    cases h5
    cases h6 with
    | cons h7 h8 =>
      cases h7
      cases h8
      rfl
theorem reads_it {h : Heap} {u : Value} {as : List Addr} : ∀ {it : Item}, Reads h u (itD it) as → as = []
  | none, r => by
    cases r with
    | tuple _ _ _ h4 => exact readsAll0 h4
  | some (k, b), r => by
    cases r with
    | tuple _ _ _ h4 => exact readsAll2 h4
theorem reads_its {h : Heap} : ∀ {st : Stn} {us : List Value} {as : List Addr}, ReadsAll h us (st.map itD) as → as = []
  | [], _, _, r => by
    cases r
    rfl
  | it :: st, _, _, r => by
    cases r with
    | cons h1 h2 => rw [reads_it h1, reads_its h2]; rfl
theorem reads_st {h : Heap} {u : Value} {as : List Addr} {st : Stn} (r : Reads h u (stD st) as) : as = [] := by
  cases r with
  | tuple _ _ _ h4 => exact reads_its h4
/-- list.sort of standings of one length -/
theorem sort_sts {A : Around} {E : Value → Shared → Prop} {Q : Value → Shared → Prop} {D : Addr} {vs : List Value} {l : List Stn} {n : Nat} (hu : A.units + 60 < cLine) (I : Inv X pins σ H s) (hD : H D = none) (ho : s.heap.get? D = some (seqObj "list" vs.toArray 0))
    (e : PySem.W.EachIs (fun (v : Value) (st : Stn) => ∃ t, v = .ref t ∧ StAt H t st) vs l) (nd : l.Nodup) (hn : ∀ st ∈ l, st.length = n) (hz : l.length ≤ 1000)
    (h : ∀ (out : List Value) (l' : List Stn), l'.Perm l → PySem.W.EachIs (fun (v : Value) (st : Stn) => ∃ t, v = .ref t ∧ StAt H t st) out l' → Q .none { s with heap := sortedHeap s.heap D vs (List.toArray out) }) :
    wpAny (model X.prog X.w) A (call (.builtin "list.sort") [.ref D]) Q E s := by
  have hl : vs.length = l.length := e.length
  have hzl : l.length ≤ sizeLine := by rw [sizeLine_eq]; omega
  by_cases h2 : l.length < 2
  · refine wpAny_call_entry slot_list_sort ⟨_, ho, rfl⟩ entry_list_sort (Srt.list_sort_any ho (by omega) (fun q => absurd q (by omega)) fun out hp => ⟨_, rfl, ?_⟩) (args_list_sort _)
    obtain ⟨l', p', h'⟩ := each_perm hp e
    exact h out l' p' h'
  · have hn0 : n ≠ 0 := by
      rintro rfl
      cases l with
      | nil => simp at h2
      | cons a r =>
        cases r with
        | nil => simp at h2
        | cons b r =>
          have ea : a = [] := List.eq_nil_of_length_eq_zero (hn a (by simp))
          have eb : b = [] := List.eq_nil_of_length_eq_zero (hn b (by simp))
          rw [ea, eb] at nd
          simp at nd
    have er : PySem.W.EachIs (fun v st => ∃ as, Reads s.heap v (stD st) as ∧ D ∉ as) vs l := e.mono fun v st ⟨t, ev, ht⟩ => by
      subst ev
      obtain ⟨as, ra⟩ := Dp.reads I (stD st) (.ref t) (.ref t) (ht.dp (K := X.K)) rfl
      exact ⟨as, ra, by rw [reads_st ra]; exact List.not_mem_nil⟩
    have al : PySem.W.AllAlike (l.map stD) := fun d hd d' hd' => by
      obtain ⟨a, _, rfl⟩ := List.mem_map.mp hd
      obtain ⟨b, _, rfl⟩ := List.mem_map.mp hd'
      exact stD_alike a b
    have so : PySem.W.Sortable (l.map stD) := .inl fun d hd => by
      obtain ⟨a, ha, rfl⟩ := List.mem_map.mp hd
      cases a with
      | nil => exact absurd (hn [] ha).symm (by simpa using hn0)
      | cons it r => exact ⟨_, _, rfl⟩
    exact PySem.W.list_sort_data (enc := stD) ho e er al so (by omega) (fun st _ => by have := stD_depth st; omega) fun out ho' eo => h out _ (List.mergeSort_perm _ _) eo
theorem entries_keys {P : Program} {w : World} {xs : List (NestedKey × Addr × Value)} {es : Array DictEntry} (h : es.toList = xs.map (entryOfKey (nestedKind P w))) {acc : Array Value} (hl : acc.size = es.size) (ha : ∀ (j : Nat) v, acc.toList[j]? = some v → ∃ hi : j < es.size, v = es[j].key) :
    acc.toList = xs.map fun x => Value.ref x.2.1 := by
  have lx : es.size = xs.length := size_of_entries h
  refine List.ext_getElem? fun j => ?_
  rw [List.getElem?_map]
  by_cases hj : j < es.size
  · have h1 : acc.toList[j]? = some (acc.toList[j]'(by simpa [hl] using hj)) := List.getElem?_eq_getElem _
    obtain ⟨hi, e⟩ := ha j _ h1
    rw [h1, e]
    have e2 : es[j]? = (xs[j]?).map (entryOfKey (nestedKind P w)) := entry_at h j
    have e3 : es[j]? = some es[j] := by simp [hj]
    rw [e3] at e2
    obtain ⟨x, hx, e4⟩ := Option.map_eq_some_iff.mp e2.symm
    rw [hx, ← e4]
    rfl
  · have h1 : acc.toList[j]? = none := List.getElem?_eq_none (by simp [hl]; omega)
    have h2 : xs[j]? = none := List.getElem?_eq_none (by omega)
    rw [h1, h2]
    rfl
theorem cr_sortN (hc : X.calm = true) (hu : X.A.units + 64 < cLine) : CallR X (.builtin "sorted") (rSortN X.prog X.w) := by
  intro pins s σ H vs us Q I r h
  obtain ⟨d, l, n, rfl, N, hn, hz, q⟩ := h
  rw [Vals.ref1 r]
  have nd := N.nodup
  obtain ⟨xs, ob, es, ep, h1, h2, h3, h4, h5, h6, h7⟩ := N
  have hd : s.heap.get? d = some ob := (I.hok d _ h1).1
  have lx : es.size = xs.length := size_of_entries h4
  have ll : xs.length = l.length := Paired.length h6
  refine Calls.call_function_entry kind_sorted plain_sorted entry_sorted (args_sorted1 _) ?_
  unfold Builtin.«sorted»
  refine wpAny_bind (m := checkCount "sorted" 1 1 _) (wpAny_pure ?_)
  refine wpAny_bind (PySem.W.kdu_collect (A := X.A.in1) (KdlSrc.rawDict (prog := X.prog) (w := X.w) h7) (I.ok.hd hc) ⟨ob, hd, h2, h3⟩ (by rw [sizeLine_eq]; omega) fun h' tk acc hk hacc => ?_)
  have eacc : acc.toList = xs.map fun x => Value.ref x.2.1 := entries_keys h4 hacc.1 fun j v e => hacc.2 j v (by rw [← Array.getElem?_toList]; exact e)
  rw [eacc]
  have I1 : Inv X pins σ H { s with heap := h', toks := tk } := I.kept hk
  refine wpAny_bind (wpAny_newList ?_ (by rw [List.length_map, sizeLine_eq]; omega))
  have hf : H h'.objs.size = none := I1.hok.fresh (Nat.le_refl _)
  have I2 : Inv X pins σ H { s with heap := h'.push (seqObj "list" (xs.map fun x => Value.ref x.2.1).toArray 0), toks := tk } := I1.kept (t' := tk) fun b o q => Heap.get?_push_of_some _ q
  have ho : (h'.push (seqObj "list" (xs.map fun x => Value.ref x.2.1).toArray 0)).get? h'.objs.size = some (seqObj "list" (xs.map fun x => Value.ref x.2.1).toArray 0) := Heap.get?_push_size _ rfl
  refine wpAny_bind (wpAny_holding (thn (sort_sts (A := X.A.in1) (D := h'.objs.size) (Q := fun _ s' => ∃ out l', l'.Perm l ∧ PySem.W.EachIs (fun (v : Value) (st : Stn) => ∃ t, v = .ref t ∧ StAt H t st) out l' ∧ s' = { s with heap := sortedHeap (h'.push (seqObj "list" (xs.map fun x => Value.ref x.2.1).toArray 0)) h'.objs.size (xs.map fun x => Value.ref x.2.1) (List.toArray out), toks := tk })
    (by show X.A.units + 1 + 60 < cLine; omega) I2 hf ho (ents_refs h6) nd hn hz fun out l' p e => ⟨out, l', p, e, rfl⟩) fun _ s' z => ?_))
  obtain ⟨out, l', p, e, rfl⟩ := z
  refine wpAny_pure ⟨_, rfl, ?_⟩
  obtain ⟨ts, et, hts⟩ := each_addrs e
  have hlt : ∀ b o, h'.get? b = some o → b ≠ h'.objs.size ∧ b < (h'.push (seqObj "list" (xs.map fun x => Value.ref x.2.1).toArray 0)).objs.size := fun b o z => by
    have : b < h'.objs.size := Heap.lt_size z
    exact ⟨Nat.ne_of_lt this, by rw [Heap.size_push]; exact Nat.lt_succ_of_lt this⟩
  obtain ⟨m, hm⟩ := sortedHeap_at (out := List.toArray out) ho
  have lo : out.length = l'.length := e.length
  refine ⟨.ref h'.objs.size, upd H h'.objs.size (.lst (ts.map V.ref)), I1.laid (o := .lst (ts.map V.ref)) (t' := tk) (fun b o z => ?_) (Nat.le_refl _) ⟨?_, out, m, ?_, hm⟩, rfl, q _ l' ts hf p hts⟩
  · rw [sortedHeap_old (hlt b o z).1 (hlt b o z).2]
    exact Heap.get?_push_of_some _ z
  · have : ts.length = l'.length := Paired.length hts
    rw [List.length_map, this, p.length_eq, sizeLine_eq]
    omega
  · rw [et]
    exact refs_vals ts
end
end U

set_option Elab.async false
set_option linter.all false
set_option maxRecDepth 100000
set_option maxHeartbeats 4000000
/-! Facts of built-ins, what is kept, comprehensions and dict loops. -/
namespace U
open PySem PySem.Spec PyProof.Rows L2
theorem b_isinstance : bootBuiltins "isinstance" = some (.builtin "isinstance") := by decide +kernel
theorem b_len : bootBuiltins "len" = some (.builtin "len") := by decide +kernel
theorem b_all : bootBuiltins "all" = some (.builtin "all") := by decide +kernel
theorem b_any : bootBuiltins "any" = some (.builtin "any") := by decide +kernel
theorem b_sum : bootBuiltins "sum" = some (.builtin "sum") := by decide +kernel
theorem b_sorted : bootBuiltins "sorted" = some (.builtin "sorted") := by decide +kernel
theorem b_max : bootBuiltins "max" = some (.builtin "max") := by decide +kernel
theorem b_min : bootBuiltins "min" = some (.builtin "min") := by decide +kernel
theorem b_abs : bootBuiltins "abs" = some (.builtin "abs") := by decide +kernel
theorem b_divmod : bootBuiltins "divmod" = some (.builtin "divmod") := by decide +kernel
theorem b_dict : bootBuiltins "dict" = some (.type "dict") := by decide +kernel
theorem b_list : bootBuiltins "list" = some (.type "list") := by decide +kernel
theorem b_tuple : bootBuiltins "tuple" = some (.type "tuple") := by decide +kernel
theorem b_int : bootBuiltins "int" = some (.type "int") := by decide +kernel
theorem b_str : bootBuiltins "str" = some (.type "str") := by decide +kernel
theorem b_bool : bootBuiltins "bool" = some (.type "bool") := by decide +kernel
/-! ### rules with K named, for blocks -/
section
variable {X : Cx} {K : PySem.W.Frag}
theorem ixT (hK : X.K = K) : IxR X (rIxT K) := hK ▸ ix_tup
theorem ixL (hK : X.K = K) : IxR X (rIxL K) := hK ▸ ix_list
theorem ixQ (hK : X.K = K) : IxR X (rIx K) := hK ▸ ix_seq
theorem inQ (hK : X.K = K) : OpR X (compareOp .In) (rIn K false) := hK ▸ op_in_seq
theorem ninQ (hK : X.K = K) : OpR X (compareOp .NotIn) (rIn K true) := hK ▸ op_notIn_seq
theorem slT (hK : X.K = K) : SlR X (rSlA K) := hK ▸ sl_tupA
theorem slL (hK : X.K = K) : SlR X (rSlL K) := hK ▸ sl_list
theorem catA (hK : X.K = K) : OpR X (binaryOp .Add) (rCatA K) := hK ▸ op_catA
theorem lenK (hK : X.K = K) : CallR X (.builtin "len") (fun xs H Q => ∃ x n, xs = [x] ∧ LenV K x H n ∧ Q (.int n) H) := hK ▸ call_len
theorem isiK (hK : X.K = K) : CallR X (.builtin "isinstance") (rIsi K) := hK ▸ call_isi
theorem isiTK (hK : X.K = K) : CallR X (.builtin "isinstance") (rIsiT K) := hK ▸ call_isiT
theorem tupK (hK : X.K = K) : CallR X (.type "tuple") (fun xs H Q => ∃ p ys, xs = [.ref p] ∧ ((SqL K H p ys ∧ ∀ l, H l = none → Q (.ref l) (upd H l (.tup ys))) ∨ (SqT K H p ys ∧ Q (.ref p) H))) := hK ▸ call_tuple_of
theorem piT {tg l : Expr} {tl : TE} (hK : X.K = K) (hl : PE X l tl) : PI X tg l (iTup K tl) := hK ▸ pi_tup hl
theorem piL {tg l : Expr} {tl : TE} (hK : X.K = K) (hl : PE X l tl) : PI X tg l (iList K tl) := hK ▸ pi_list hl
end
/-! ### what is kept -/
/-- a relation of heaps: tuples stay, what is new to the first may be written -/
structure Rel (R : Hp → Hp → Prop) : Prop where
  tr : ∀ {a b c}, R a b → R b c → R a c
  tk : ∀ {a b}, R a b → Tk a b
  nw : ∀ {a b D o}, R a b → a D = none → R a (upd b D o)
  kp : ∀ {a b c D o}, R a b → a D = none → b D = some o → R b c → c D = some o
theorem _root_.L2.Same.new {H H' : Hp} {D : Addr} {o : HO} (s : Same H H') (h : H D = none) : Same H (upd H' D o) := fun b u e => by
  rw [upd_ne (ne_of_none e h)]
  exact s b u e
theorem rel_same : Rel Same := ⟨Same.trans, fun s => s.tk, fun s h => Same.new s h, fun _ _ e s => s _ _ e⟩
theorem _root_.L2.Same.up {H H' : Hp} {D : Addr} {o : HO} (s : Same H H') (h : H' D = none) : Same H (upd H' D o) := Same.new s (s.free h)
/-! ### lists of math beside lists of values -/
/-- i-th turn: what the list has so far -/
theorem paired_snoc {α β : Type} {R : α → β → Prop} {x : α} {y : β} (h : R x y) : ∀ {xs : List α} {ys : List β}, Paired R xs ys → Paired R (xs ++ [x]) (ys ++ [y])
  | _, _, .nil => .cons h .nil
  | _, _, .cons a t => .cons a (paired_snoc h t)
theorem paired_eq {α β : Type} {f : β → α} : ∀ {xs : List α} {ys : List β}, Paired (fun x y => x = f y) xs ys → xs = ys.map f
  | _, _, .nil => rfl
  | _, _, .cons a t => by rw [a, paired_eq t]; rfl
theorem paired_map {α β : Type} {f : β → α} {R : α → β → Prop} (h : ∀ y, R (f y) y) : ∀ ys : List β, Paired R (ys.map f) ys
  | [] => .nil
  | y :: r => .cons (h y) (paired_map h r)
theorem paired_at {α β : Type} {R : α → β → Prop} : ∀ {xs : List α} {ys : List β} {i : Nat} {x : α}, Paired R xs ys → xs[i]? = some x → ∃ y, ys[i]? = some y ∧ R x y
  | _, _, 0, _, .cons h _, e => by
    cases (Option.some.inj (by simpa using e))
    exact ⟨_, rfl, h⟩
  | _, _, i + 1, _, .cons _ t, e => by simpa using paired_at t (by simpa using e)
theorem take_snoc {α : Type} {xs : List α} {i : Nat} {x : α} (h : xs[i]? = some x) : xs.take (i + 1) = xs.take i ++ [x] := by
  rw [List.take_add_one, h]
  rfl
/-- a comprehension's state: the list at D bears acc i -/
structure LcI {β : Type} (Rl : Hp → Hp → Prop) (R : Hp → V → β → Prop) (acc : Nat → List β) (H0 : Hp) (D : Addr) (i : Nat) (H : Hp) : Prop where
  rl : Rl H0 H
  at_ : ∃ us, H D = some (.lst us) ∧ Paired (R H) us (acc i) ∧ us.length ≤ i
section
variable {β : Type} {Rl : Hp → Hp → Prop} {R : Hp → V → β → Prop} {acc : Nat → List β} {H0 H H4 : Hp} {D : Addr} {i : Nat} {n : Nat}
abbrev TkR {β : Type} (R : Hp → V → β → Prop) : Prop := ∀ {H H' : Hp} {v : V} {b : β}, Tk H H' → R H v b → R H' v b
theorem LcI.start (rl : Rel Rl) (hD : H0 D = none) (hr : Rl H0 H0) (ha : acc 0 = []) : LcI Rl R acc H0 D 0 (upd H0 D (.lst [])) := ⟨rl.nw hr hD, [], upd_same, by rw [ha]; exact .nil, Nat.le_refl _⟩
theorem LcI.step (I : LcI Rl R acc H0 D i H) (rl : Rel Rl) (hD : H0 D = none) (hR : TkR R) (hz : i < 1000) (k : Rl H H4) {y : V} {z : β} (e : acc (i + 1) = acc i ++ [z]) (r : R H4 y z) :
    ∃ us, H4 D = some (.lst us) ∧ us.length < sizeLine ∧ LcI Rl R acc H0 D (i + 1) (upd H4 D (.lst (us ++ [y]))) := by
  obtain ⟨h2, us, h1, h3, h4⟩ := I
  have hl := rl.kp h2 hD h1 k
  have t1 : Tk H4 (upd H4 D (.lst (us ++ [y]))) := Tk.at hl (fun xs z => by cases z)
  refine ⟨us, hl, by rw [sizeLine_eq]; omega, rl.nw (rl.tr h2 k) hD, us ++ [y], upd_same, ?_, by rw [List.length_append, List.length_singleton]; omega⟩
  rw [e]
  exact paired_snoc (hR t1 r) (Paired.mapP h3 fun _ _ z => hR t1 (hR (rl.tk k) z))
theorem LcI.skip (I : LcI Rl R acc H0 D i H) (rl : Rel Rl) (hD : H0 D = none) (hR : TkR R) (k : Rl H H4) (e : acc (i + 1) = acc i) : LcI Rl R acc H0 D (i + 1) H4 := by
  obtain ⟨h2, us, h1, h3, h4⟩ := I
  exact ⟨rl.tr h2 k, us, rl.kp h2 hD h1 k, by rw [e]; exact Paired.mapP h3 fun _ _ z => hR (rl.tk k) z, by omega⟩
end
section
variable {β : Type} {J : It} {n : Nat} {G : Hp → Prop} {Y : Nat → Hp → V → Hp → Prop} {Rl : Hp → Hp → Prop}
theorem lc_go (rl : Rel Rl) (w : Walk J n G Y) {g : TG} {tt : TT} {te : TE} {vs : List Nat} {σ : L2.St} {H0 : Hp} {D : Addr} {Qd : Hp → Prop} (hD : H0 D = none) (hr : Rl H0 H0) (acc : Nat → List β) (R : Hp → V → β → Prop) (ha : acc 0 = [])
    (hG : ∀ H, Rl H0 H → G H)
    (hs : ∀ i x H H', i < n → LcI Rl R acc H0 D i H → Y i H x H' → g x (wipe σ vs) H' fun σ2 H2 => wipe σ2 vs = wipe σ vs ∧ tt σ2 H2 fun b H3 =>
      if b = true then te σ2 H3 fun y H4 => ∃ us, H4 D = some (.lst us) ∧ us.length < sizeLine ∧ LcI Rl R acc H0 D (i + 1) (upd H4 D (.lst (us ++ [y]))) else LcI Rl R acc H0 D (i + 1) H3) 
    (hd : ∀ us H, H D = some (.lst us) → Rl H0 H → Paired (R H) us (acc n) → Qd H) :
    ∃ W : Nat → Nat → Hp → Prop, (∃ m, W 0 m (upd H0 D (.lst []))) ∧ ∀ i m H, W i m H →
      (J.stop i H ∧ Qd H) ∨ (J.go i H ∧ ∃ Nx : Hp → Prop, (∀ H', Nx H' → ∃ m', m' < m ∧ W (i + 1) m' H') ∧ ∀ x H', J.yld i H x H' → g x (wipe σ vs) H' fun σ2 H2 => wipe σ2 vs = wipe σ vs ∧ tt σ2 H2 fun b H3 =>
        if b = true then te σ2 H3 fun y H4 => ∃ acc, H4 D = some (.lst acc) ∧ acc.length < sizeLine ∧ Nx (upd H4 D (.lst (acc ++ [y]))) else Nx H3) :=
  lc_it w (LcI Rl R acc H0 D) (LcI.start rl hD hr ha) (fun i H _ I => hG H I.rl) hs fun H I => let ⟨us, h1, h2, _⟩ := I.at_; hd us H h1 I.rl h2
end
/-! ### dicts of ints -/
/-- the pairs of a dict whose values are ints -/
def DI (l : List (Key × Int)) : List (Key × V) := l.map fun p => (p.1, V.int p.2)
def look (l : List (Key × Int)) (k : Key) : Option Int := (l.find? fun p => decide (p.1 = k)).map (·.2)
theorem valV_DI (l : List (Key × Int)) (k : Key) : valV (DI l) k = (look l k).map V.int := by
  induction l with
  | nil => rfl
  | cons p r ih =>
    by_cases h : p.1 = k
    · simp [DI, look, valV, h]
    · have e : valV (DI (p :: r)) k = valV (DI r) k := valV_neg (p := (p.1, V.int p.2)) h
      rw [e, ih]
      simp [look, List.find?_cons, h]
theorem DI_length (l : List (Key × Int)) : (DI l).length = l.length := List.length_map _
theorem DI_keys (l : List (Key × Int)) : (DI l).map (·.1) = l.map (·.1) := by simp [DI]
theorem look_none {l : List (Key × Int)} {k : Key} (h : k ∉ l.map (·.1)) : look l k = none := by
  simp only [look, Option.map_eq_none_iff, List.find?_eq_none, decide_eq_true_eq]
  intro p hp e
  exact h (List.mem_map.mpr ⟨p, hp, e⟩)
theorem look_mem {l : List (Key × Int)} (nd : (l.map (·.1)).Nodup) {p : Key × Int} (h : p ∈ l) : look l p.1 = some p.2 := by
  induction l with
  | nil => cases h
  | cons q r ih =>
    rw [List.map_cons, List.nodup_cons] at nd
    rcases List.mem_cons.mp h with e | e
    · subst e
      simp [look]
    · have hq : ¬ q.1 = p.1 := fun z => nd.1 (z ▸ List.mem_map.mpr ⟨p, e, rfl⟩)
      have := ih nd.2 e
      simpa [look, List.find?_cons, hq] using this
theorem look_some {l : List (Key × Int)} {k : Key} {n : Int} (h : look l k = some n) : (k, n) ∈ l := by
  obtain ⟨p, hp, e⟩ := Option.map_eq_some_iff.mp h
  have h1 := List.mem_of_find?_eq_some hp
  have h2 := List.find?_some hp
  simp only [decide_eq_true_eq] at h2
  rw [← e, ← h2]
  exact h1
theorem putDI {l : List (Key × Int)} {k : Key} {n : Int} (h : k ∉ l.map (·.1)) : putK (DI l) k (.int n) = DI (l ++ [(k, n)]) := by
  rw [putK_new _ (by rw [valV_DI, look_none h]; rfl)]
  simp [DI]
theorem DGet.di {H : Hp} {a : Addr} {l : List (Key × Int)} {k : Key} (e : H a = some (.dK (DI l))) : DGet H a (kV k) ((look l k).map V.int) := by
  rw [← valV_DI]
  exact DGet.k e
theorem DGet.dif {H : Hp} {a : Addr} {ob : Obj} {l : List (Key × Int)} {k : Key} (e : H a = some (.frz ob (.dK (DI l)))) : DGet H a (kV k) ((look l k).map V.int) := by
  rw [← valV_DI]
  exact .inl ⟨_, k, .inr ⟨_, e⟩, rfl, rfl⟩
/-- a dict comprehension over a dict's own keys -/
theorem dc_it {J : It} {n : Nat} {G : Hp → Prop} {Y : Nat → Hp → V → Hp → Prop} (w : Walk J n G Y) {g : TG} {tt : TT} {tk tv : TE} {vs : List Nat} {σ : L2.St} {H1 : Hp} {D : Addr} {Qd : Hp → Prop} (Pv : Nat → Hp → Prop) (h0 : Pv 0 (upd H1 D (.dK []))) (hG : ∀ i H, i ≤ n → Pv i H → G H)
    (hs : ∀ i x H H', i < n → Pv i H → Y i H x H' → g x (wipe σ vs) H' fun σ2 H2 => wipe σ2 vs = wipe σ vs ∧ tt σ2 H2 fun b H3 =>
      if b = true then tk σ2 H3 fun y H4 => tv σ2 H4 fun z H5 => ∃ kvs k, y = kV k ∧ H5 D = some (.dK kvs) ∧ kvs.length < sizeLine ∧ Pv (i + 1) (upd H5 D (.dK (putK kvs k z))) else Pv (i + 1) H3) (hd : ∀ H, Pv n H → Qd H) :
    ∃ W : Nat → Nat → Hp → Prop, (∃ m, W 0 m (upd H1 D (.dK []))) ∧ ∀ i m H, W i m H →
      (J.stop i H ∧ Qd H) ∨ (J.go i H ∧ ∃ Nx : Hp → Prop, (∀ H', Nx H' → ∃ m', m' < m ∧ W (i + 1) m' H') ∧ ∀ x H', J.yld i H x H' → g x (wipe σ vs) H' fun σ2 H2 => wipe σ2 vs = wipe σ vs ∧ tt σ2 H2 fun b H3 =>
        if b = true then tk σ2 H3 fun y H4 => tv σ2 H4 fun z H5 => ∃ kvs k, y = kV k ∧ H5 D = some (.dK kvs) ∧ kvs.length < sizeLine ∧ Nx (upd H5 D (.dK (putK kvs k z))) else Nx H3) := by
  refine ⟨fun i m H => m = n - i ∧ i ≤ n ∧ Pv i H, ⟨n, by simp, Nat.zero_le _, h0⟩, ?_⟩
  rintro i m H ⟨rfl, hi, p⟩
  have q := hG i H hi p
  by_cases hlt : i < n
  · refine .inr ⟨w.goes i H hlt q, Pv (i + 1), fun H' p' => ⟨n - (i + 1), by omega, rfl, hlt, p'⟩, fun x H' y => hs i x H H' hlt p (w.yields i H x H' hlt q y)⟩
  · have e : i = n := by omega
    subst e
    exact .inl ⟨w.stops H q, hd H p⟩
end U

set_option Elab.async false
set_option linter.all false
set_option maxRecDepth 100000
set_option maxHeartbeats 4000000
/-! Promises and proofs of the small defs. -/
namespace U
open PySem PySem.Spec PyProof.Rows L2
theorem isi {K : PySem.W.Frag} {H : Hp} {Q : VK} {x : V} {a b : String} {r : Bool} (hx : TyX K H x (.type a)) (h : kitB a b = some r) (q : Q (.bl r) H) : rIsi K [x, .ty b] H Q := ⟨x, .ty b, .type a, .type b, r, rfl, .ty b, hx, kit_ty h, q⟩
/-! ### the objects -/
structure Ru where
  w : List Int
  s : List Int
  n : Int
abbrev So := List (Str × Int)
def RuAt (K : PySem.W.Frag) (H : Hp) (r : Addr) (ru : Ru) : Prop := ∃ dx wa sa, H r = some (.ins (He.ga K "Rule") dx [("r_weights", .ref wa), ("r_skipped", .ref sa), ("r_spread", .int ru.n)]) ∧ H wa = some (.tup (ru.w.map V.int)) ∧ H sa = some (.tup (ru.s.map V.int))
abbrev ks (so : So) : List (Key × Int) := so.map fun p => (Sum.inr p.1, p.2)
def SoAt (K : PySem.W.Frag) (H : Hp) (o : Addr) (so : So) : Prop := ∃ dx d, H o = some (.ins (He.ga K "Songs") dx [("s_numbers", .ref d)]) ∧ H d = some (.dK (DI (ks so)))
theorem RuAt.mono {K : PySem.W.Frag} {H H' : Hp} (k : Same H H') {r : Addr} {ru : Ru} (h : RuAt K H r ru) : RuAt K H' r ru := let ⟨dx, wa, sa, h1, h2, h3⟩ := h; ⟨dx, wa, sa, k _ _ h1, k _ _ h2, k _ _ h3⟩
theorem SoAt.mono {K : PySem.W.Frag} {H H' : Hp} (k : Same H H') {o : Addr} {so : So} (h : SoAt K H o so) : SoAt K H' o so := let ⟨dx, d, h1, h2⟩ := h; ⟨dx, d, k _ _ h1, k _ _ h2⟩
section
variable {P : Program} {w : World} {K : PySem.W.Frag} {mg : Str → Option Value} {base : Heap}
def pr_is_integer : Pr := fun vs H Q => ∃ k : Key, vs = [kV k] ∧ Q (.bl k.isLeft) H
theorem sc_is_integer : FnScope ["thing"] ["thing"] (defScope s_is_integer) := ⟨rfl, rfl, rfl, by decide +kernel, rfl, by decide +kernel, by decide +kernel⟩
theorem ok_is_integer (T : T K mg) : Ok P w K mg base 1 (He.ga K "is_integer") pr_is_integer := by
  refine Dn.ok T.is_integer sc_is_integer (fun _ _ _ _ _ _ us hl => match us, hl with | [_], _ => rfl) (fun vs H Q h => ?_) fun cdv A outer s H vs Q E hr h => ?_
  · obtain ⟨_, rfl, _⟩ := h
    rfl
  obtain ⟨k, rfl, h⟩ := h
  refine ⟨_, (pss_one (ps_ret (pe_and (pe_callB (isiK (K := K) rfl) rfl T.z_isinstance b_isinstance (pa_cons (pv 0) (pa_cons (pe_bltn (v := .ty "int") rfl T.z_int b_int rfl) pa_nil))) (pe_one (pe_not (pe_callB (isiK (K := K) rfl) rfl T.z_isinstance b_isinstance (pa_cons (pv 0) (pa_cons (pe_bltn (v := .ty "bool") rfl T.z_bool b_bool rfl) pa_nil)))))))), ?_⟩
  cases k with
  | inl i => exact ⟨_, rfl, _, _, _, _, true, rfl, .ty "int", .base (.int i), kit_ty (by decide +kernel : kitB "int" "int" = some true), _, rfl, iteT ⟨_, rfl, _, _, _, _, false, rfl, .ty "bool", .base (.int i), kit_ty (by decide +kernel : kitB "int" "bool" = some false), _, rfl, h⟩⟩
  | inr i => exact ⟨_, rfl, _, _, _, _, false, rfl, .ty "int", .base (.str i), kit_ty (by decide +kernel : kitB "str" "int" = some false), _, rfl, iteF h⟩
def pr_is_number : Pr := fun vs H Q => ∃ i : Int, vs = [.int i] ∧ 0 ≤ i ∧ Q (.bl true) H
theorem sc_is_number : FnScope ["thing"] ["thing"] (defScope s_is_number) := ⟨rfl, rfl, rfl, by decide +kernel, rfl, by decide +kernel, by decide +kernel⟩
theorem ok_is_number (T : T K mg) : Ok P w K mg base 2 (He.ga K "is_number") pr_is_number := by
  refine Dn.ok T.is_number sc_is_number (fun _ _ _ _ _ _ us hl => match us, hl with | [_], _ => rfl) (fun vs H Q h => ?_) fun cdv A outer s H vs Q E hr h => ?_
  · obtain ⟨_, rfl, _⟩ := h
    rfl
  obtain ⟨k, rfl, hk, h⟩ := h
  refine ⟨_, (pss_one (ps_ret (pe_and (pe_cal (ok_is_integer T) (hr.mono (by decide)) rfl T.is_integer (pa_cons (pv 0) pa_nil)) (pe_one (pe_cmpR op_ge (pv 0) pe_int (nomark _)))))), ?_⟩
  refine ⟨_, rfl, Sum.inl k, rfl, _, rfl, iteT ⟨_, rfl, _, _, rfl, rfl, ?_⟩⟩
  show Q (.bl (decide ((0 : Int) ≤ k))) H
  rw [decide_eq_true hk]
  exact h
def pr_is_list (K : PySem.W.Frag) : Pr := fun vs H Q => ∃ a xs, vs = [.ref a] ∧ H a = some (.lst xs) ∧ ∀ H', Same H H' → Q (.bl true) H'
theorem sc_is_list : FnScope ["thing"] ["thing"] (defScope s_is_list) := ⟨rfl, rfl, rfl, by decide +kernel, rfl, by decide +kernel, by decide +kernel⟩
theorem ok_is_list (T : T K mg) : Ok P w K mg base 1 (He.ga K "is_list") (pr_is_list K) := by
  refine Dn.ok T.is_list sc_is_list (fun _ _ _ _ _ _ us hl => match us, hl with | [_], _ => rfl) (fun vs H Q h => ?_) fun cdv A outer s H vs Q E hr h => ?_
  · obtain ⟨_, _, rfl, _⟩ := h
    rfl
  obtain ⟨a, xs, rfl, ha, h⟩ := h
  refine ⟨_, (pss_one (ps_ret (pe_callB (isiTK (K := K) rfl) rfl T.z_isinstance b_isinstance (pa_cons (pv 0) (pa_cons (pe_tup (pa_cons (pe_bltn (v := .ty "list") rfl T.z_list b_list rfl) (pa_cons (pe_bltn (v := .ty "tuple") rfl T.z_tuple b_tuple rfl) pa_nil))) pa_nil))))), ?_⟩
  refine ⟨_, rfl, by show 2 ≤ sizeLine; decide, fun p hp => ⟨_, p, _, .type "list", _, true, rfl, upd_same, .cons (.ty "list") (.cons (.ty "tuple") .nil), .base (.lst (xs := xs) ?_), kitAny_cons (kit_ty (by decide +kernel : kitB "list" "list" = some true)) (fun z => by cases z) (fun _ => rfl), h _ (Same.new (Same.refl _) hp)⟩⟩
  rw [upd_ne (ne_of_none ha hp)]
  exact ha
def pr_need_kind (K : PySem.W.Frag) : Pr := fun vs H Q => ∃ o so k, vs = [.ref o, .str k] ∧ SoAt K H o so ∧ k ∈ so.map (·.1) ∧ Q .non H
theorem ks_mem {so : So} {k : Str} (h : k ∈ so.map (·.1)) : ∃ n, look (ks so) (.inr k) = some n := by
  cases e : look (ks so) (.inr k) with
  | some n => exact ⟨n, rfl⟩
  | none =>
    simp only [look, Option.map_eq_none_iff, List.find?_eq_none, decide_eq_true_eq] at e
    obtain ⟨p, hp, rfl⟩ := List.mem_map.mp h
    exact absurd rfl (e (.inr p.1, p.2) (List.mem_map.mpr ⟨p, hp, rfl⟩))
theorem sc_need_kind : FnScope ["songs", "kind"] ["songs", "kind"] (defScope s_need_kind) := ⟨rfl, rfl, rfl, by decide +kernel, rfl, by decide +kernel, by decide +kernel⟩
theorem ok_need_kind (T : T K mg) : Ok P w K mg base 1 (He.ga K "need_kind") (pr_need_kind K) := by
  refine Dn.ok T.need_kind sc_need_kind (fun _ _ _ _ _ _ us hl => match us, hl with | [_, _], _ => rfl) (fun vs H Q h => ?_) fun cdv A outer s H vs Q E hr h => ?_
  · obtain ⟨_, _, _, rfl, _⟩ := h
    rfl
  obtain ⟨o, so, k, rfl, ⟨dx, d, h1, h2⟩, hk, h⟩ := h
  refine ⟨_, (pss_one (ps_if (PW.pt (pw_or (pt_not (pt_val (pe_callB (isiK (K := K) rfl) rfl T.z_isinstance b_isinstance (pa_cons (pv 1) (pa_cons (pe_bltn (v := .ty "str") rfl T.z_str b_str rfl) pa_nil))))) (pw_or1 (pt_cmp (pc_dnotin (hu_of hr) (pv 1) (pe_fld (pv 0) rfl)))))) (pss_one ps_never) pss_nil)), ?_⟩
  obtain ⟨n, e⟩ := ks_mem hk
  refine ⟨_, rfl, _, _, _, _, true, rfl, .ty "str", .base (.str k), kit_ty (by decide +kernel : kitB "str" "str" = some true), _, rfl, iteF ⟨_, rfl, _, rfl, o, _, dx, _, _, rfl, h1, T.kSongs, T.nNumbers, rfl, _, _, rfl, DGet.di (k := .inr k) h2, ?_⟩⟩
  rw [e]
  exact ⟨_, rfl, iteF h⟩
def pr_getitem (K : PySem.W.Frag) : Pr := fun vs H Q => ∃ o so k n, vs = [.ref o, .str k] ∧ SoAt K H o so ∧ look (ks so) (.inr k) = some n ∧ k ∈ so.map (·.1) ∧ Q (.int n) H
theorem sc_Songs_getitem : FnScope ["self", "kind"] ["self", "kind"] (defScope s_Songs_getitem) := ⟨rfl, rfl, rfl, by decide +kernel, rfl, by decide +kernel, by decide +kernel⟩
theorem okm_getitem (T : T K mg) : ∃ fd, FnOk P w K mg base CX0 2 (He.ma K (He.ga K "Songs") "__getitem__") fd ["self", "kind"] (pr_getitem K).sp ∧ Binds K fd ["self", "kind"] [] := by
  refine ok_meth T.Songs_getitem.fn sc_Songs_getitem (fun _ _ _ _ _ _ us hl => match us, hl with | [_, _], _ => rfl) (fun vs H Q h => ?_) fun cdv A outer s H vs Q E hr h => ?_
  · obtain ⟨_, _, _, _, rfl, _⟩ := h
    rfl
  obtain ⟨o, so, k, n, rfl, S, e, hk, h⟩ := h
  obtain ⟨dx, d, h1, h2⟩ := id S
  refine ⟨_, (pss_cons (ps_expr (pe_cal (ok_need_kind T) (hr.mono (by decide)) rfl T.need_kind (pa_cons (pv 0) (pa_cons (pv 1) pa_nil)))) (pss_one (ps_ret (pe_dget (hu_of hr) (pe_fld (pv 0) rfl) (pv 1) (fun _ _ => rfl))))), ?_⟩
  exact ⟨_, rfl, _, rfl, o, so, k, rfl, S, hk, _, rfl, o, _, dx, _, _, rfl, h1, T.kSongs, T.nNumbers, rfl, _, rfl, _, _, rfl, by have := DGet.di (k := .inr k) h2; rw [e] at this; exact this, h⟩
theorem ok_getitem (T : T K mg) : Ok P w K mg base 2 (He.ma K (He.ga K "Songs") "__getitem__") (pr_getitem K) := let ⟨_, F, b⟩ := okm_getitem T; ok_raw F b
def pr_contains (K : PySem.W.Frag) : Pr := fun vs H Q => ∃ o so k, vs = [.ref o, .str k] ∧ SoAt K H o so ∧ k ∈ so.map (·.1) ∧ Q (.bl true) H
theorem sc_Songs_contains : FnScope ["self", "kind"] ["self", "kind"] (defScope s_Songs_contains) := ⟨rfl, rfl, rfl, by decide +kernel, rfl, by decide +kernel, by decide +kernel⟩
theorem okm_contains (T : T K mg) : ∃ fd, FnOk P w K mg base CX0 1 (He.ma K (He.ga K "Songs") "__contains__") fd ["self", "kind"] (pr_contains K).sp ∧ Binds K fd ["self", "kind"] [] := by
  refine ok_meth T.Songs_contains.fn sc_Songs_contains (fun _ _ _ _ _ _ us hl => match us, hl with | [_, _], _ => rfl) (fun vs H Q h => ?_) fun cdv A outer s H vs Q E hr h => ?_
  · obtain ⟨_, _, _, rfl, _⟩ := h
    rfl
  obtain ⟨o, so, k, rfl, S, hk, h⟩ := h
  obtain ⟨dx, d, h1, h2⟩ := id S
  obtain ⟨n, e⟩ := ks_mem hk
  refine ⟨_, (pss_one (ps_ret (pe_and (pe_callB (isiK (K := K) rfl) rfl T.z_isinstance b_isinstance (pa_cons (pv 1) (pa_cons (pe_bltn (v := .ty "str") rfl T.z_str b_str rfl) pa_nil))) (pe_one (pe_cmp (pc_din (hu_of hr) (pv 1) (pe_fld (pv 0) rfl)) rfl))))), ?_⟩
  refine ⟨_, rfl, _, _, _, _, true, rfl, .ty "str", .base (.str k), kit_ty (by decide +kernel : kitB "str" "str" = some true), _, rfl, iteT ⟨_, rfl, _, rfl, o, _, dx, _, _, rfl, h1, T.kSongs, T.nNumbers, rfl, _, _, rfl, DGet.di (k := .inr k) h2, ?_⟩⟩
  rw [e]
  exact h
theorem ok_contains (T : T K mg) : Ok P w K mg base 1 (He.ma K (He.ga K "Songs") "__contains__") (pr_contains K) := let ⟨_, F, b⟩ := okm_contains T; ok_raw F b
/-! getters -/
def pr_numbers (K : PySem.W.Frag) : Pr := fun vs H Q => ∃ o so, vs = [.ref o] ∧ SoAt K H o so ∧ ∀ p, H p = none → Q (.ref p) (upd H p (.dK (DI (ks so))))
theorem sc_Songs_numbers : FnScope ["self"] ["self"] (defScope s_Songs_numbers) := ⟨rfl, rfl, rfl, by decide +kernel, rfl, by decide +kernel, by decide +kernel⟩
theorem ok_Songs_numbers (T : T K mg) : ∃ fd, FnOk P w K mg base CX0 1 (getterAt K "Songs" "numbers") fd ["self"] (pr_numbers K).sp ∧ Binds K fd ["self"] [] := by
  refine ok_meth T.Songs_numbers.fn sc_Songs_numbers (fun _ _ _ _ _ _ us hl => match us, hl with | [_], _ => rfl) (fun vs H Q h => ?_) fun cdv A outer s H vs Q E hr h => ?_
  · obtain ⟨_, _, rfl, _⟩ := h
    rfl
  obtain ⟨o, so, rfl, ⟨dx, d, h1, h2⟩, h⟩ := h
  refine ⟨_, (pss_one (ps_ret (pe_callTy call_dictD rfl T.z_dict b_dict (pa_cons (pe_fld (pv 0) rfl) pa_nil)))), ?_⟩
  exact ⟨_, rfl, o, _, dx, _, _, rfl, h1, T.kSongs, T.nNumbers, rfl, _, _, rfl, .inl h2, h⟩
def pr_cap (K : PySem.W.Frag) : Pr := fun vs H Q => ∃ r ru, vs = [.ref r] ∧ RuAt K H r ru ∧ Q (.int (ru.w.length : Nat)) H
theorem sc_Rule_cap : FnScope ["self"] ["self"] (defScope s_Rule_cap) := ⟨rfl, rfl, rfl, by decide +kernel, rfl, by decide +kernel, by decide +kernel⟩
theorem ok_Rule_cap (T : T K mg) : ∃ fd, FnOk P w K mg base CX0 1 (getterAt K "Rule" "cap") fd ["self"] (pr_cap K).sp ∧ Binds K fd ["self"] [] := by
  refine ok_meth T.Rule_cap.fn sc_Rule_cap (fun _ _ _ _ _ _ us hl => match us, hl with | [_], _ => rfl) (fun vs H Q h => ?_) fun cdv A outer s H vs Q E hr h => ?_
  · obtain ⟨_, _, rfl, _⟩ := h
    rfl
  obtain ⟨r, ru, rfl, ⟨dx, wa, sa, h1, h2, h3⟩, h⟩ := h
  refine ⟨_, (pss_one (ps_ret (pe_callB (lenK (K := K) rfl) rfl T.z_len b_len (pa_cons (pe_fld (pv 0) rfl) pa_nil)))), ?_⟩
  exact ⟨_, rfl, r, _, dx, _, _, rfl, h1, T.kRule, T.nWeights, rfl, _, ru.w.length, rfl, .inr ⟨_, SqT.of h2, (List.length_map _).symm⟩, h⟩
def pr_weights (K : PySem.W.Frag) : Pr := fun vs H Q => ∃ r ru, vs = [.ref r] ∧ RuAt K H r ru ∧ ∀ a, H a = some (.tup (ru.w.map V.int)) → Q (.ref a) H
theorem sc_Rule_weights : FnScope ["self"] ["self"] (defScope s_Rule_weights) := ⟨rfl, rfl, rfl, by decide +kernel, rfl, by decide +kernel, by decide +kernel⟩
theorem ok_Rule_weights (T : T K mg) : ∃ fd, FnOk P w K mg base CX0 1 (getterAt K "Rule" "weights") fd ["self"] (pr_weights K).sp ∧ Binds K fd ["self"] [] := by
  refine ok_meth T.Rule_weights.fn sc_Rule_weights (fun _ _ _ _ _ _ us hl => match us, hl with | [_], _ => rfl) (fun vs H Q h => ?_) fun cdv A outer s H vs Q E hr h => ?_
  · obtain ⟨_, _, rfl, _⟩ := h
    rfl
  obtain ⟨r, ru, rfl, ⟨dx, wa, sa, h1, h2, h3⟩, h⟩ := h
  refine ⟨_, (pss_one (ps_ret (pe_fld (pv 0) rfl))), ?_⟩
  exact ⟨_, rfl, r, _, dx, _, _, rfl, h1, T.kRule, T.nWeights, rfl, h _ h2⟩
def pr_skipped (K : PySem.W.Frag) : Pr := fun vs H Q => ∃ r ru, vs = [.ref r] ∧ RuAt K H r ru ∧ ∀ a, H a = some (.tup (ru.s.map V.int)) → Q (.ref a) H
theorem sc_Rule_skipped : FnScope ["self"] ["self"] (defScope s_Rule_skipped) := ⟨rfl, rfl, rfl, by decide +kernel, rfl, by decide +kernel, by decide +kernel⟩
theorem ok_Rule_skipped (T : T K mg) : ∃ fd, FnOk P w K mg base CX0 1 (getterAt K "Rule" "skipped") fd ["self"] (pr_skipped K).sp ∧ Binds K fd ["self"] [] := by
  refine ok_meth T.Rule_skipped.fn sc_Rule_skipped (fun _ _ _ _ _ _ us hl => match us, hl with | [_], _ => rfl) (fun vs H Q h => ?_) fun cdv A outer s H vs Q E hr h => ?_
  · obtain ⟨_, _, rfl, _⟩ := h
    rfl
  obtain ⟨r, ru, rfl, ⟨dx, wa, sa, h1, h2, h3⟩, h⟩ := h
  refine ⟨_, (pss_one (ps_ret (pe_fld (pv 0) rfl))), ?_⟩
  exact ⟨_, rfl, r, _, dx, _, _, rfl, h1, T.kRule, T.nSkipped, rfl, h _ h3⟩
def pr_spread (K : PySem.W.Frag) : Pr := fun vs H Q => ∃ r ru, vs = [.ref r] ∧ RuAt K H r ru ∧ Q (.int ru.n) H
theorem sc_Rule_spread : FnScope ["self"] ["self"] (defScope s_Rule_spread) := ⟨rfl, rfl, rfl, by decide +kernel, rfl, by decide +kernel, by decide +kernel⟩
theorem ok_Rule_spread (T : T K mg) : ∃ fd, FnOk P w K mg base CX0 1 (getterAt K "Rule" "spread") fd ["self"] (pr_spread K).sp ∧ Binds K fd ["self"] [] := by
  refine ok_meth T.Rule_spread.fn sc_Rule_spread (fun _ _ _ _ _ _ us hl => match us, hl with | [_], _ => rfl) (fun vs H Q h => ?_) fun cdv A outer s H vs Q E hr h => ?_
  · obtain ⟨_, _, rfl, _⟩ := h
    rfl
  obtain ⟨r, ru, rfl, ⟨dx, wa, sa, h1, h2, h3⟩, h⟩ := h
  refine ⟨_, (pss_one (ps_ret (pe_fld (pv 0) rfl))), ?_⟩
  exact ⟨_, rfl, r, _, dx, _, _, rfl, h1, T.kRule, T.nSpread, rfl, h⟩
end
end U

set_option Elab.async false
set_option linter.all false
set_option maxRecDepth 100000
set_option maxHeartbeats 4000000
/-! What the defs compute, as plain functions. -/
namespace U
open PySem L2
def itKd (k : Str) (it : Item) : Bool := decide (it.map (·.1) = some k)
def cnt (st : Stn) (k : Str) : Int := (st.countP (itKd k) : Nat)
def num (so : So) (k : Str) : Int := (look (ks so) (.inr k)).getD 0
structure RuOk (ru : Ru) : Prop where
  w1 : 1 ≤ ru.w.length
  w4 : ru.w.length ≤ 4
  sl : ru.s.length + 1 = ru.w.length
  wp : ∀ x ∈ ru.w, 0 ≤ x ∧ x ≤ 9
  sp : ∀ x ∈ ru.s, 0 ≤ x ∧ x ≤ 9
  n0 : 0 ≤ ru.n
  n1 : ru.n < ru.w.length
abbrev letters : Str := "abcdefghijklmnopqrstuvwxyz"
def NameOk (z : Str) : Prop := 1 ≤ z.length ∧ z.length ≤ 8 ∧ ∀ c ∈ z.cps.toList, c ∈ letters.cps.toList
structure SoOk (so : So) : Prop where
  l1 : 1 ≤ so.length
  l3 : so.length ≤ 3
  nd : (so.map (·.1)).Nodup
  nm : ∀ p ∈ so, NameOk p.1
  np : ∀ p ∈ so, 0 ≤ p.2 ∧ p.2 ≤ 9
  pos : (so.map (·.2)).sum ≠ 0
structure StOk (ru : Ru) (so : So) (st : Stn) : Prop where
  len : st.length + 1 = ru.w.length
  kin : ∀ k b, some (k, b) ∈ st → k ∈ so.map (·.1)
  few : ∀ k, k ∈ so.map (·.1) → cnt st k ≤ num so k
def fst0 (ru : Ru) : Stn := List.replicate (ru.w.length - 1) none
def old (so : So) (st : Stn) : So := (so.map fun p => (p.1, p.2 - cnt st p.1)).filter fun p => decide (0 < p.2)
def agesF (i : Nat) (it : Item) : List Int := if it = none then [] else [((i : Nat) : Int) + 1]
def agesFrom : Nat → Stn → List Int
  | _, [] => []
  | i, it :: r => agesF i it ++ agesFrom (i + 1) r
def agesOf (st : Stn) : List Int := agesFrom 0 st
def barF (it : Item) : Option Str := it.map (·.1)
def barred (n : Int) (st : Stn) : List Str := (st.take n.toNat).filterMap barF
/-- the weight of the age a -/
def wtA (ru : Ru) (bs : List Str) (st : Stn) (a : Int) : Int := match st[(a - 1).toNat]? with
  | some (some (k, b)) => if k ∈ bs then 0 else ((if b = true then ru.s else ru.w)[(a - 1).toNat]?).getD 0
  | _ => 0
def wtK (ru : Ru) (bs : List Str) (p : Str × Int) : Int := if p.1 ∈ bs then 0 else (ru.w[ru.w.length - 1]?).getD 0 * p.2
def told (ru : Ru) (so : So) (st : Stn) : List (Key × Int) := (agesOf st).map (fun a => (Sum.inl a, wtA ru (barred ru.n st) st a)) ++ (old so st).map (fun p => (Sum.inr p.1, wtK ru (barred ru.n st) p))
def anyW (l : List (Key × Int)) : Bool := (l.map (·.2)).any fun n => n != 0
/-- what stands in for the weights where all are 0 -/
def fbW (so : So) (st : Stn) (last : Option Key) (k : Key) : Int := (look (ks (old so st)) k).getD (if last = some k then 1 else 0)
def lastK (l : List (Key × Int)) : Option Key := (l.map (·.1)).getLast?
def allw (ru : Ru) (so : So) (st : Stn) : List (Key × Int) :=
  if anyW (told ru so st) = true then told ru so st
  else (told ru so st).map fun p => (p.1, fbW so st (if old so st = [] then lastK (told ru so st) else none) p.1)
def pls (ru : Ru) (so : So) (st : Stn) : List Key := (told ru so st).map (·.1)
def kindAt (st : Stn) : Key → Str
  | .inl a => match st[(a - 1).toNat]? with | some (some (k, _)) => k | _ => default
  | .inr k => k
/-- the others, behind the drawn one -/
def restF (pl : Key) (i : Nat) (it : Item) : Item := if Sum.inl (((i : Nat) : Int) + 1) = pl then none else it
def restFrom (pl : Key) : Nat → Stn → Stn
  | _, [] => []
  | i, it :: r => restF pl i it :: restFrom pl (i + 1) r
def drawn (st : Stn) (pl : Key) (b : Bool) : Stn := (some (kindAt st pl, b) :: restFrom pl 0 st).take st.length
def stF (p : Key × Int) : List (Key × Bool) := if 0 < p.2 then [(p.1, false), (p.1, true)] else []
def steps (ru : Ru) (so : So) (st : Stn) : List (Key × Bool) := (allw ru so st).flatMap stF
end U

set_option Elab.async false
set_option linter.all false
set_option maxRecDepth 100000
set_option maxHeartbeats 4000000
/-! Standings: the small defs. -/
namespace U
open PySem PySem.Spec PyProof.Rows L2
theorem iteTe {c : Bool} {A B : Prop} (e : c = true) (h : A) : if c = true then A else B := by rw [if_pos e]; exact h
theorem iteFe {c : Bool} {A B : Prop} (e : c = false) (h : B) : if c = true then A else B := by rw [e]; exact h
theorem tkItAt : TkR (fun H v it => ItAt H v it) := fun k h => h.mono k
theorem eqv_it (a b : Item) {c : Bool} (h : decide (a = b) = c) : PyData.eqv (itD a) (itD b) = c := (itD_eqv a b).trans h
section
variable {P : Program} {w : World} {K : PySem.W.Frag} {mg : Str → Option Value} {base : Heap}
def pr_first_standing (K : PySem.W.Frag) : Pr := fun vs H Q => ∃ r ru, vs = [.ref r] ∧ RuAt K H r ru ∧ RuOk ru ∧ ∀ t H', Same H H' → StAt H' t (fst0 ru) → Q (.ref t) H'
theorem sc_first_standing : FnScope ["rule", "age"] ["rule"] (defScope s_first_standing) := ⟨rfl, rfl, rfl, by decide +kernel, rfl, by decide +kernel, by decide +kernel⟩
theorem ok_first_standing (T : T K mg) : Ok P w K mg base 3 (He.ga K "first_standing") (pr_first_standing K) := by
  refine Dn.ok T.first_standing sc_first_standing (fun _ _ _ _ _ _ us hl => match us, hl with | [_], _ => rfl) (fun vs H Q h => ?_) fun cdv A outer s H vs Q E hr h => ?_
  · obtain ⟨_, _, rfl, _⟩ := h
    rfl
  obtain ⟨r, ru, rfl, R, ok, h⟩ := h
  refine ⟨_, (pss_one (ps_ret (pe_callTy (tupK (K := K) rfl) rfl T.z_tuple b_tuple (pa_cons (pe_lc (own := [("age", 1)]) (g := gName 1) (tt := tYes) rfl sc_first_standing.nd  (pi_range1 rfl T.z_range (pa_cons (pe_op op_sub (pe_prp T.Rule_cap.pr T.kRule (ok_Rule_cap T) (hr.mono (by decide)) (pv 0) rfl) pe_int) pa_nil)) (blkOk_by (N := ["rule", "age"]) (sc := defScope s_first_standing) (by decide +kernel)) (fun _ _ _ _ _ => pg_name (i := 1) sc_first_standing.nd rfl (by first | exact .inl rfl | exact .inr rfl)) (fun _ _ _ _ _ => pts_nil) (fun _ _ _ _ _ => (pe_tup pa_nil))) pa_nil)))), ?_⟩
  have b1 := ok.w1
  have b4 := ok.w4
  refine ⟨_, rfl, r, _, _, rfl, R.choose_spec.choose_spec.choose_spec.1, r, ru, rfl, R, _, _, rfl, rfl, (ru.w.length : Int) - 1, rfl, by omega, by omega, fun D hD => ?_⟩
  have en : ((ru.w.length : Int) - 1).toNat = ru.w.length - 1 := by omega
  rw [en]
  refine lc_go rel_same walk_range hD (Same.refl _) (fun i => List.replicate i (none : Item)) (fun H v it => ItAt H v it) rfl (fun _ _ => trivial) ?_ ?_
  · rintro i x H1 H' hi I ⟨rfl, rfl⟩
    exact ⟨rfl, by show 0 ≤ sizeLine; decide, fun p hp => I.step rel_same hD tkItAt (by omega) (Same.up (Same.refl _) hp) List.replicate_succ' ⟨p, rfl, upd_same⟩⟩
  · intro us H1 h1 s1 p1
    exact ⟨D, us, rfl, .inl ⟨SqL.of h1, fun l hl => h _ _ (s1.up hl) ⟨us, upd_same, Paired.mapP p1 fun _ _ z => z.mono (Tk.new hl)⟩⟩⟩
def pr_is_item (K : PySem.W.Frag) : Pr := fun vs H Q => ∃ o so v it, vs = [.ref o, v] ∧ SoAt K H o so ∧ ItAt H v it ∧ (∀ k b, it = some (k, b) → k ∈ so.map (·.1)) ∧ ∀ H', Same H H' → Q (.bl true) H'
theorem sc_is_item : FnScope ["songs", "thing"] ["songs", "thing"] (defScope s_is_item) := ⟨rfl, rfl, rfl, by decide +kernel, rfl, by decide +kernel, by decide +kernel⟩
theorem ok_is_item (T : T K mg) : Ok P w K mg base 2 (He.ga K "is_item") (pr_is_item K) := by
  refine Dn.ok T.is_item sc_is_item (fun _ _ _ _ _ _ us hl => match us, hl with | [_, _], _ => rfl) (fun vs H Q h => ?_) fun cdv A outer s H vs Q E hr h => ?_
  · obtain ⟨_, _, _, _, rfl, _⟩ := h
    rfl
  obtain ⟨o, so, v, it, rfl, S, hv, hk, h⟩ := h
  refine ⟨_, (pss_cons (ps_if (PW.pt (pw_or (pt_not (pt_val (pe_callB (isiK (K := K) rfl) rfl T.z_isinstance b_isinstance (pa_cons (pv 1) (pa_cons (pe_bltn (v := .ty "tuple") rfl T.z_tuple b_tuple rfl) pa_nil))))) (pw_or1 (pt_cmpR (ninQ (K := K) rfl) (pe_callB (lenK (K := K) rfl) rfl T.z_len b_len (pa_cons (pv 1) pa_nil)) (pe_tup (pa_cons pe_int (pa_cons pe_int pa_nil))) (by rfl))))) (pss_one (ps_ret pe_bl)) pss_nil) (pss_one (ps_ret (pe_or (pe_cmpR (op_eqP (K := K) rfl (by exact hr.units)) (pv 1) (pe_tup pa_nil) (nomark _)) (pe_one (pe_and (pe_cmpR (op_ownIn T.mtHas.at_ T.mtHas.fn (ok_contains T) (hr.mono (by decide))) (pe_ix (ixT (K := K) rfl) (pv 1) pe_int (fun _ _ => rfl)) (pv 0) (by rfl)) (pe_one (pe_callB (isiK (K := K) rfl) rfl T.z_isinstance b_isinstance (pa_cons (pe_ix (ixT (K := K) rfl) (pv 1) pe_int (fun _ _ => rfl)) (pa_cons (pe_bltn (v := .ty "bool") rfl T.z_bool b_bool rfl) pa_nil)))))))))), ?_⟩
  cases it with
  | none =>
    obtain ⟨a, rfl, ha⟩ := hv
    refine ⟨_, rfl, _, _, _, _, true, rfl, .ty "tuple", .base (.tup ha), kit_ty (by decide +kernel : kitB "tuple" "tuple" = some true), _, rfl, iteF ?_⟩
    refine ⟨_, rfl, _, 0, rfl, .inr ⟨_, SqT.of ha, rfl⟩, by show 2 ≤ sizeLine; decide, fun p hp => ⟨_, _, rfl, .inr (SqT.of upd_same), rfl, rfl, _, rfl, iteF ?_⟩⟩
    have s1 := Same.up (Same.refl H) hp (o := .tup [.int 0, .int 2])
    refine ⟨_, rfl, by show 0 ≤ sizeLine; decide, fun q hq => ?_⟩
    have s2 := s1.up hq (o := .tup [])
    exact ⟨itD none, itD none, (show ItAt _ (V.ref a) none from ⟨a, rfl, s2 _ _ ha⟩).dp, (show ItAt _ (V.ref q) none from ⟨q, rfl, upd_same⟩).dp, itD_plain _, itD_plain _, by have := itD_depth none; omega, _, rfl, iteTe (eqv_it none none (by simp)) (h _ s2)⟩
  | some kb =>
    obtain ⟨k, b⟩ := kb
    obtain ⟨a, rfl, ha⟩ := hv
    refine ⟨_, rfl, _, _, _, _, true, rfl, .ty "tuple", .base (.tup ha), kit_ty (by decide +kernel : kitB "tuple" "tuple" = some true), _, rfl, iteF ?_⟩
    refine ⟨_, rfl, _, 2, rfl, .inr ⟨_, SqT.of ha, rfl⟩, by show 2 ≤ sizeLine; decide, fun p hp => ⟨_, _, rfl, .inr (SqT.of upd_same), rfl, rfl, _, rfl, iteF ?_⟩⟩
    have s1 := Same.up (Same.refl H) hp (o := .tup [.int 0, .int 2])
    refine ⟨_, rfl, by show 0 ≤ sizeLine; decide, fun q hq => ?_⟩
    have s2 := s1.up hq (o := .tup [])
    obtain ⟨dx, d, h1, _⟩ := id S
    refine ⟨itD (some (k, b)), itD none, (show ItAt _ (V.ref a) (some (k, b)) from ⟨a, rfl, s2 _ _ ha⟩).dp, (show ItAt _ (V.ref q) none from ⟨q, rfl, upd_same⟩).dp, itD_plain _, itD_plain _, by have := itD_depth (some (k, b)); omega, _, rfl, iteFe (eqv_it _ none (by simp)) ?_⟩
    refine ⟨_, rfl, _, _, _, _, rfl, rfl, SqT.of (s2 _ _ ha), rfl, _, rfl, o, dx, _, rfl, s2 _ _ h1, o, so, k, rfl, S.mono s2, hk k b rfl, _, rfl, _, rfl, iteT ?_⟩
    exact ⟨_, rfl, _, _, _, _, rfl, rfl, SqT.of (s2 _ _ ha), rfl, _, _, _, _, true, rfl, .ty "bool", .base (.bl b), kit_ty (by decide +kernel : kitB "bool" "bool" = some true), h _ s2⟩
/-! ages -/
theorem agesFrom_app (i : Nat) : ∀ (a b : Stn), agesFrom i (a ++ b) = agesFrom i a ++ agesFrom (i + a.length) b
  | [], b => by simp [agesFrom]
  | x :: a, b => by
    rw [List.cons_append, agesFrom, agesFrom, agesFrom_app (i + 1) a b, List.append_assoc, List.length_cons, show i + 1 + a.length = i + (a.length + 1) by omega]
theorem agesFrom_one (i : Nat) (it : Item) : agesFrom i [it] = agesF i it := by simp [agesFrom]
theorem ages_snoc {st : Stn} {i : Nat} {it : Item} (h : st[i]? = some it) : agesFrom 0 (st.take (i + 1)) = agesFrom 0 (st.take i) ++ agesF i it := by
  have hl : (st.take i).length = i := by
    have := (List.getElem?_eq_some_iff.mp h).1
    simp; omega
  rw [take_snoc h, agesFrom_app, agesFrom_one, hl, Nat.zero_add]
theorem tkInt : TkR (fun (_ : Hp) v (n : Int) => v = V.int n) := fun _ h => h
theorem tkStr : TkR (fun (_ : Hp) v (n : Str) => v = V.str n) := fun _ h => h
theorem it_ne {it : Item} : decide (it = none) = it.isNone := by cases it <;> rfl
def pr_ages_in (K : PySem.W.Frag) : Pr := fun vs H Q => ∃ t st, vs = [.ref t] ∧ StAt H t st ∧ st.length ≤ 100 ∧ ∀ l H', Same H H' → H' l = some (.lst ((agesOf st).map V.int)) → H l = none → Q (.ref l) H'
theorem sc_ages_in : FnScope ["standing", "at", "item"] ["standing"] (defScope s_ages_in) := ⟨rfl, rfl, rfl, by decide +kernel, rfl, by decide +kernel, by decide +kernel⟩
theorem ok_ages_in (T : T K mg) : Ok P w K mg base 1 (He.ga K "ages_in") (pr_ages_in K) := by
  refine Dn.ok T.ages_in sc_ages_in (fun _ _ _ _ _ _ us hl => match us, hl with | [_], _ => rfl) (fun vs H Q h => ?_) fun cdv A outer s H vs Q E hr h => ?_
  · obtain ⟨_, _, rfl, _⟩ := h
    rfl
  obtain ⟨t, st, rfl, S, hz, h⟩ := h
  obtain ⟨xs, hx, px⟩ := id S
  have el : xs.length = st.length := Paired.length px
  refine ⟨_, (pss_one (ps_ret (pe_lc (own := [("at", 1), ("item", 2)]) (g := gTup K 2 (gCons (gName 1) (gCons (gName 2) gNil))) rfl sc_ages_in.nd  (pi_enumT rfl T.z_enumerate (pa_cons (pv 0) pa_nil)) (blkOk_by (N := ["standing", "at", "item"]) (sc := defScope s_ages_in) (by decide +kernel)) (fun _ _ _ _ _ => pg_tup rfl (pgs_cons (pg_name (i := 1) sc_ages_in.nd rfl (by first | exact .inl rfl | exact .inr rfl)) (pgs_cons (pg_name (i := 2) sc_ages_in.nd rfl (by first | exact .inl rfl | exact .inr rfl)) pgs_nil))) (fun _ _ _ _ _ => (pts_one (pt_cmpR (op_neP (K := K) rfl (by exact hr.units)) (pv 2) (pe_tup pa_nil) (nomark _)))) (fun _ _ _ _ _ => (pe_op op_add (pv 1) pe_int))))), ?_⟩
  refine ⟨_, rfl, t, xs, rfl, SqT.of hx, fun D hD => ?_⟩
  refine lc_go rel_same walk_enumT hD (Same.refl _) (fun i => agesFrom 0 (st.take i)) (fun _ v n => v = V.int n) rfl (fun H1 s1 => SqT.of (s1 _ _ hx)) ?_ ?_
  · rintro i x H1 H' hi I ⟨q, x1, x2, rfl, hq, rfl, e1, e2⟩
    cases e1
    obtain ⟨it, hi2, hit⟩ := paired_at px e2
    have s1 := Same.up (Same.refl H1) hq (o := .tup [.int (i : Nat), x2])
    have hit1 : ItAt _ x2 it := hit.mono (I.rl.trans s1).tk
    refine ⟨q, _, rfl, SqT.of upd_same, rfl, _, _, rfl, _, _, rfl, rfl, rfl, ?_⟩
    refine ⟨_, rfl, by show 0 ≤ sizeLine; decide, fun p hp => ?_⟩
    have s2 := s1.up hp (o := .tup [])
    refine ⟨itD it, itD none, (hit1.mono (Tk.new hp)).dp, (show ItAt _ (V.ref p) none from ⟨p, rfl, upd_same⟩).dp, itD_plain _, itD_plain _, by have := itD_depth it; omega, _, rfl, ?_⟩
    cases it with
    | none => exact iteFe (by rw [itD_eqv]; rfl) (I.skip rel_same hD tkInt s2 (by rw [ages_snoc hi2]; simp [agesF]))
    | some kb => exact iteTe (by rw [itD_eqv]; rfl) ⟨_, rfl, _, _, rfl, rfl, I.step rel_same hD tkInt (by omega) s2 (by rw [ages_snoc hi2]; rfl) rfl⟩
  · intro us H1 h1 s1 p1
    refine h D H1 s1 ?_ hD
    rw [h1, paired_eq p1, el, List.take_length]
    rfl
/-! barred kinds -/
theorem paired_take {α β : Type} {R : α → β → Prop} : ∀ (n : Nat) {xs : List α} {ys : List β}, Paired R xs ys → Paired R (xs.take n) (ys.take n)
  | 0, _, _, _ => .nil
  | _ + 1, _, _, .nil => .nil
  | n + 1, _, _, .cons h t => .cons h (paired_take n t)
theorem bar_snoc {st : Stn} {i : Nat} {it : Item} (h : st[i]? = some it) : (st.take (i + 1)).filterMap barF = (st.take i).filterMap barF ++ (barF it).toList := by
  rw [take_snoc h, List.filterMap_append]
  cases it <;> rfl
def pr_barred_kinds (K : PySem.W.Frag) : Pr := fun vs H Q => ∃ r ru t st, vs = [.ref r, .ref t] ∧ RuAt K H r ru ∧ RuOk ru ∧ StAt H t st ∧ st.length ≤ 100 ∧ ∀ l H', Same H H' → H' l = some (.lst ((barred ru.n st).map V.str)) → H l = none → Q (.ref l) H'
theorem sc_barred_kinds : FnScope ["rule", "standing", "item"] ["rule", "standing"] (defScope s_barred_kinds) := ⟨rfl, rfl, rfl, by decide +kernel, rfl, by decide +kernel, by decide +kernel⟩
theorem sIx_hi {n : Nat} {i : Int} (h0 : 0 ≤ i) : HT.sIx n n (some i) = min i.toNat n := by
  unfold HT.sIx
  simp only
  split <;> omega
theorem ok_barred_kinds (T : T K mg) : Ok P w K mg base 3 (He.ga K "barred_kinds") (pr_barred_kinds K) := by
  refine Dn.ok T.barred_kinds sc_barred_kinds (fun _ _ _ _ _ _ us hl => match us, hl with | [_, _], _ => rfl) (fun vs H Q h => ?_) fun cdv A outer s H vs Q E hr h => ?_
  · obtain ⟨_, _, _, _, rfl, _⟩ := h
    rfl
  obtain ⟨r, ru, t, st, rfl, R, ok, S, hz, h⟩ := h
  obtain ⟨xs, hx, px⟩ := id S
  have el : xs.length = st.length := Paired.length px
  refine ⟨_, (pss_one (ps_ret (pe_lc (own := [("item", 2)]) (g := gName 2) rfl sc_barred_kinds.nd  (piT (K := K) rfl (pe_slice (slT (K := K) rfl) (pv 1) po_none (po_some (pe_prp T.Rule_spread.pr T.kRule (ok_Rule_spread T) (hr.mono (by decide)) (pv 0) rfl)))) (blkOk_by (N := ["rule", "standing", "item"]) (sc := defScope s_barred_kinds) (by decide +kernel)) (fun _ _ _ _ _ => pg_name (i := 2) sc_barred_kinds.nd rfl (by first | exact .inl rfl | exact .inr rfl)) (fun _ _ _ _ _ => (pts_one (pt_cmpR (op_neP (K := K) rfl (by exact hr.units)) (pv 2) (pe_tup pa_nil) (nomark _)))) (fun _ _ _ _ _ => (pe_ix (ixT (K := K) rfl) (pv 2) pe_int (fun _ _ => rfl)))))), ?_⟩
  have n0 := ok.n0
  have n1 := ok.n1
  have go : ∀ (H1 : Hp) (a : Addr) (ys : List V) (D : Addr), Same H H1 → H1 a = some (.tup ys) → Paired (ItAt H1) ys (st.take ru.n.toNat) → H1 D = none → ∃ W : Nat → Nat → Hp → Prop, (∃ m, W 0 m (upd H1 D (.lst []))) ∧ ∀ i m H, W i m H →
      ((Itt K a).stop i H ∧ Q (.ref D) H) ∨ ((Itt K a).go i H ∧ ∃ Nx : Hp → Prop, (∀ H', Nx H' → ∃ m', m' < m ∧ W (i + 1) m' H') ∧ ∀ x H', (Itt K a).yld i H x H' → gName 2 x (wipe [some (.ref r), some (.ref t), none] [2]) H' fun σ2 H2 => wipe σ2 [2] = wipe [some (.ref r), some (.ref t), none] [2] ∧ tTest (tOp (rNeP K) (tVar 2) (tTup tNil)) σ2 H2 fun b H3 =>
        if b = true then tOp (rIxT K) (tVar 2) (tC (.int 0)) σ2 H3 fun y H4 => ∃ acc, H4 D = some (.lst acc) ∧ acc.length < sizeLine ∧ Nx (upd H4 D (.lst (acc ++ [y]))) else Nx H3) := by
    intro H1 a ys D s1 ha pa hD
    have el : ys.length = (st.take ru.n.toNat).length := Paired.length pa
    refine lc_go rel_same walk_tup hD (Same.refl _) (fun i => ((st.take ru.n.toNat).take i).filterMap barF) (fun _ v n => v = V.str n) rfl (fun H2 s2 => SqT.of (s2 _ _ ha)) ?_ ?_
    · rintro i x H2 H' hi I ⟨rfl, e2⟩
      obtain ⟨it, hi2, hit⟩ := paired_at pa e2
      refine ⟨rfl, _, rfl, by show 0 ≤ sizeLine; decide, fun p hp => ?_⟩
      have s2 := Same.up (Same.refl H') hp (o := .tup [])
      have hit1 : ItAt _ x it := hit.mono (I.rl.trans s2).tk
      refine ⟨itD it, itD none, hit1.dp, (show ItAt _ (V.ref p) none from ⟨p, rfl, upd_same⟩).dp, itD_plain _, itD_plain _, by have := itD_depth it; omega, _, rfl, ?_⟩
      have hi63 : i < 1000 := by rw [el, List.length_take] at hi; omega
      cases it with
      | none => exact iteFe (by rw [itD_eqv]; rfl) (I.skip rel_same hD tkStr s2 (by rw [bar_snoc hi2]; simp [barF]))
      | some kb =>
        obtain ⟨k, b⟩ := kb
        obtain ⟨c, rfl, hc⟩ := hit1
        exact iteTe (by rw [itD_eqv]; rfl) ⟨_, rfl, _, _, _, _, rfl, rfl, SqT.of hc, rfl, I.step rel_same hD tkStr hi63 s2 (by rw [bar_snoc hi2]; rfl) rfl⟩
    · intro us H2 h2 s2 p2
      refine h D H2 (s1.trans s2) ?_ (s1.free hD)
      rw [h2, paired_eq p2, el, List.take_length]
      rfl
  refine ⟨_, rfl, _, rfl, r, _, _, rfl, R.choose_spec.choose_spec.choose_spec.1, r, ru, rfl, R, ru.n, rfl, t, xs, rfl, SqT.of hx, ?_, ?_⟩
  · rintro ⟨-, e⟩
    rw [sIx_hi n0] at e
    refine ⟨t, rfl, ⟨xs, SqT.of hx⟩, fun D hD => go H t xs D (Same.refl _) hx ?_ hD⟩
    have : st.take ru.n.toNat = st := by
      apply List.take_of_length_le
      rw [← el]; omega
    rw [this]
    exact px
  · intro _ p hp
    refine ⟨p, rfl, ⟨_, SqT.of upd_same⟩, fun D hD => go _ p _ D (Same.up (Same.refl _) hp) upd_same ?_ hD⟩
    have e0 : cutV xs none (some ru.n) = xs.take ru.n.toNat := by
      unfold cutV
      rw [sIx_hi n0]
      show (xs.drop 0).take (min ru.n.toNat xs.length - 0) = _
      rw [List.drop_zero, Nat.sub_zero]
      by_cases hh : ru.n.toNat ≤ xs.length
      · rw [Nat.min_eq_left hh]
      · rw [Nat.min_eq_right (by omega), List.take_length, List.take_of_length_le (by omega)]
    rw [e0]
    exact paired_take ru.n.toNat (Paired.mapP px fun _ _ z => z.mono (Tk.new hp))
end
end U

set_option Elab.async false
set_option linter.all false
set_option maxRecDepth 100000
set_option maxHeartbeats 4000000
/-! Counting, standings that hold, old songs. -/
namespace U
open PySem PySem.Spec PyProof.Rows L2
/-! ### more rules -/
theorem sms (H : Hp) : Same H H := fun _ _ h => h
theorem slT_of {K : PySem.W.Frag} {H : Hp} {a : Addr} {xs : List V} {lo hi : Option Int} {Q : VK} (h : H a = some (.tup xs)) (q : ∀ p H', Same H H' → H' p = some (.tup (cutV xs lo hi)) → Q (.ref p) H') : rSlA K (.ref a) lo hi H Q := by
  refine ⟨a, xs, rfl, SqT.of h, fun ⟨e1, e2⟩ => q a H (sms H) ?_, fun _ p hp => q p _ ((sms H).up hp) upd_same⟩
  unfold cutV
  rw [e1, e2]
  simpa using h
theorem catA_of {K : PySem.W.Frag} {H : Hp} {a b : Addr} {xs ys : List V} {Q : VK} (h1 : H a = some (.tup xs)) (h2 : H b = some (.tup ys)) (hz : xs.length + ys.length ≤ sizeLine) (q : ∀ p H', Same H H' → H' p = some (.tup (xs ++ ys)) → Q (.ref p) H') : rCatA K (.ref a) (.ref b) H Q := by
  refine ⟨a, b, xs, ys, rfl, rfl, SqT.of h1, SqT.of h2, hz, fun e => ?_, fun _ e => ?_, fun _ _ p hp => q p _ ((sms H).up hp) upd_same⟩
  · subst e
    exact q b H (sms H) h2
  · subst e
    exact q a H (sms H) (by rw [List.append_nil]; exact h1)
/-- d == {} -/
def rEqE : R2 := fun x y H Q => ∃ a b ks, x = .ref a ∧ y = .ref b ∧ H a = some (.dK ks) ∧ H b = some (.dK []) ∧ Q (.bl ks.isEmpty) H
theorem op_eqE {X : Cx} (hu : X.A.units < cLine) : OpR X (compareOp .Eq) rEqE := by
  intro pins s σ H x y v u Q I rx ry h
  obtain ⟨a, b, ks, rfl, rfl, ea, eb, q⟩ := h
  obtain rfl : v = Value.ref a := rx
  obtain rfl : u = Value.ref b := ry
  obtain ⟨_, ya, va, ra, da⟩ := (show ObjOk X.prog X.w H s.heap a (.dK ks) from I.hok a _ ea)
  obtain ⟨_, yb, vb, rb, db⟩ := (show ObjOk X.prog X.w H s.heap b (.dK []) from I.hok b _ eb)
  cases rb
  have hl : va.length = ks.length := (Paired.length ra).symm
  refine PySem.W.keq_eq (knd := mixKind X.prog X.w) (r := true) ya yb da db hu (fun e => ?_) (fin_bl I q ?_)
  · cases va with
    | nil => exact .nil
    | cons _ _ => cases e
  · cases ks with
    | nil => simp at hl; simp [hl]
    | cons _ _ => simp at hl; simp [hl]
/-- unlocked again -/
theorem unlock {H H1 : Hp} {d : Addr} {u f : HO} (h : H d = some u) (s : Same (upd H d f) H1) : Same H (upd H1 d u) := fun b o e => by
  by_cases q : b = d
  · subst q
    rw [h] at e
    cases e
    exact upd_same
  · rw [upd_ne q]
    exact s b o (by rw [upd_ne q]; exact e)
theorem lock_free {H : Hp} {d D : Addr} {f : HO} (h : (upd H d f) D = none) : D ≠ d ∧ H D = none := by
  by_cases q : D = d
  · subst q
    rw [upd_same] at h
    cases h
  · exact ⟨q, by rw [upd_ne q] at h; exact h⟩
theorem getD_int (o : Option Int) (n : Int) : (o.map V.int).getD (.int n) = .int (o.getD n) := by cases o <;> rfl
/-! ### dict comprehensions of ints -/
structure DcI (Rl : Hp → Hp → Prop) (acc : Nat → List (Key × Int)) (H0 : Hp) (D : Addr) (i : Nat) (H : Hp) : Prop where
  rl : Rl H0 H
  at_ : H D = some (.dK (DI (acc i)))
  len : (acc i).length ≤ i
section
variable {J : It} {n i : Nat} {G : Hp → Prop} {Y : Nat → Hp → V → Hp → Prop} {Rl : Hp → Hp → Prop} {acc : Nat → List (Key × Int)} {H0 H H5 : Hp} {D : Addr}
theorem DcI.step (I : DcI Rl acc H0 D i H) (rl : Rel Rl) (hD : H0 D = none) (hz : i < 1000) (k : Rl H H5) {y : Key} {z : Int} (hy : y ∉ (acc i).map (·.1)) (e : acc (i + 1) = acc i ++ [(y, z)]) :
    ∃ kvs k', kV y = kV k' ∧ H5 D = some (.dK kvs) ∧ kvs.length < sizeLine ∧ DcI Rl acc H0 D (i + 1) (upd H5 D (.dK (putK kvs k' (.int z)))) := by
  have hl := I.len
  refine ⟨_, y, rfl, rl.kp I.rl hD I.at_ k, by rw [DI_length, sizeLine_eq]; omega, rl.nw (rl.tr I.rl k) hD, ?_, by rw [e, List.length_append, List.length_singleton]; omega⟩
  rw [upd_same, putDI hy, e]
theorem DcI.skip (I : DcI Rl acc H0 D i H) (rl : Rel Rl) (hD : H0 D = none) (k : Rl H H5) (e : acc (i + 1) = acc i) : DcI Rl acc H0 D (i + 1) H5 :=
  ⟨rl.tr I.rl k, by rw [e]; exact rl.kp I.rl hD I.at_ k, by rw [e]; exact Nat.le_succ_of_le I.len⟩
theorem dc_go (rl : Rel Rl) (w : Walk J n G Y) {g : TG} {tt : TT} {tk tv : TE} {vs : List Nat} {σ : L2.St} {Qd : Hp → Prop} (hD : H0 D = none) (hr : Rl H0 H0) (acc : Nat → List (Key × Int)) (ha : acc 0 = [])
    (hG : ∀ H, Rl H0 H → G H)
    (hs : ∀ i x H H', i < n → DcI Rl acc H0 D i H → Y i H x H' → g x (wipe σ vs) H' fun σ2 H2 => wipe σ2 vs = wipe σ vs ∧ tt σ2 H2 fun b H3 =>
      if b = true then tk σ2 H3 fun y H4 => tv σ2 H4 fun z H5 => ∃ kvs k, y = kV k ∧ H5 D = some (.dK kvs) ∧ kvs.length < sizeLine ∧ DcI Rl acc H0 D (i + 1) (upd H5 D (.dK (putK kvs k z))) else DcI Rl acc H0 D (i + 1) H3)
    (hd : ∀ H, H D = some (.dK (DI (acc n))) → Rl H0 H → Qd H) :
    ∃ W : Nat → Nat → Hp → Prop, (∃ m, W 0 m (upd H0 D (.dK []))) ∧ ∀ i m H, W i m H →
      (J.stop i H ∧ Qd H) ∨ (J.go i H ∧ ∃ Nx : Hp → Prop, (∀ H', Nx H' → ∃ m', m' < m ∧ W (i + 1) m' H') ∧ ∀ x H', J.yld i H x H' → g x (wipe σ vs) H' fun σ2 H2 => wipe σ2 vs = wipe σ vs ∧ tt σ2 H2 fun b H3 =>
        if b = true then tk σ2 H3 fun y H4 => tv σ2 H4 fun z H5 => ∃ kvs k, y = kV k ∧ H5 D = some (.dK kvs) ∧ kvs.length < sizeLine ∧ Nx (upd H5 D (.dK (putK kvs k z))) else Nx H3) :=
  dc_it w (DcI Rl acc H0 D) ⟨rl.nw hr hD, by rw [upd_same, ha]; rfl, by rw [ha]; exact Nat.le_refl _⟩ (fun i H _ I => hG H I.rl) hs fun H I => hd H I.at_ I.rl
end
/-! ### counting -/
def putI (l : List (Key × Int)) (k : Key) (n : Int) : List (Key × Int) := if (l.any fun p => decide (p.1 = k)) = true then l.map (fun p => if p.1 = k then (p.1, n) else p) else l ++ [(k, n)]
theorem DI_putI (l : List (Key × Int)) (k : Key) (n : Int) : putK (DI l) k (.int n) = DI (putI l k n) := by
  have e : ((DI l).any fun kv => decide (kv.1 = k)) = (l.any fun p => decide (p.1 = k)) := by
    unfold DI
    rw [List.any_map]
    rfl
  unfold putK putI
  rw [e]
  split
  · unfold DI
    rw [List.map_map, List.map_map]
    refine List.map_congr_left fun p _ => ?_
    show (if p.1 = k then (p.1, V.int n) else (p.1, V.int p.2)) = _
    by_cases h : p.1 = k <;> simp [h]
  · simp [DI]
theorem look_putI (l : List (Key × Int)) (k j : Key) (n : Int) : look (putI l k n) j = if j = k then some n else look l j := by
  have h := valV_put (DI l) k j (.int n)
  rw [DI_putI, valV_DI, valV_DI] at h
  by_cases e : j = k
  · rw [if_pos e] at h ⊢
    obtain ⟨m, h1, h2⟩ := Option.map_eq_some_iff.mp h
    rw [h1]
    cases h2
    rfl
  · rw [if_neg e] at h ⊢
    cases h1 : look (putI l k n) j <;> cases h2 : look l j <;> rw [h1, h2] at h <;> simp at h ⊢
    exact h
theorem mem_putI {l : List (Key × Int)} {k : Key} {n : Int} {p : Key × Int} (h : p ∈ putI l k n) : p = (k, n) ∨ p ∈ l ∧ p.1 ≠ k := by
  unfold putI at h
  split at h
  · obtain ⟨q, hq, e⟩ := List.mem_map.mp h
    by_cases hk : q.1 = k
    · rw [if_pos hk] at e
      exact .inl (by rw [← e, hk])
    · rw [if_neg hk] at e
      exact .inr ⟨e ▸ hq, e ▸ hk⟩
  · rename_i hn
    rcases List.mem_append.mp h with h | h
    · refine .inr ⟨h, fun e => hn ?_⟩
      exact List.any_eq_true.mpr ⟨p, h, by simpa using e⟩
    · exact .inl (List.mem_singleton.mp h)
theorem putI_len (l : List (Key × Int)) (k : Key) (n : Int) : (putI l k n).length ≤ l.length + 1 := by
  unfold putI
  split <;> simp
theorem cnt_snoc (s : Stn) (it : Item) (k : Str) : cnt (s ++ [it]) k = cnt s k + if itKd k it = true then 1 else 0 := by
  unfold cnt
  rw [List.countP_append, List.countP_singleton]
  split <;> simp
structure CntOk (s : Stn) (l : List (Key × Int)) : Prop where
  at_ : ∀ k, look l (.inr k) = if cnt s k = 0 then none else some (cnt s k)
  mem : ∀ p ∈ l, ∃ k, p = (.inr k, cnt s k)
  len : l.length ≤ s.length
theorem cnt_nonneg (s : Stn) (k : Str) : 0 ≤ cnt s k := Int.natCast_nonneg _
theorem CntOk.none {s : Stn} {l : List (Key × Int)} (c : CntOk s l) : CntOk (s ++ [none]) l := by
  have e : ∀ k, cnt (s ++ [Option.none]) k = cnt s k := fun k => by rw [cnt_snoc]; simp [itKd]
  exact ⟨fun k => by rw [e]; exact c.at_ k, fun p hp => let ⟨k, h⟩ := c.mem p hp; ⟨k, by rw [e]; exact h⟩, by rw [List.length_append]; exact Nat.le_add_right_of_le c.len⟩
theorem CntOk.some {s : Stn} {l : List (Key × Int)} {k : Str} {b : Bool} (c : CntOk s l) : CntOk (s ++ [some (k, b)]) (putI l (.inr k) ((look l (.inr k)).getD 0 + 1)) := by
  have e1 : (look l (.inr k)).getD 0 = cnt s k := by
    rw [c.at_ k]
    by_cases h : cnt s k = 0 <;> simp [h]
  have e : ∀ j, cnt (s ++ [Option.some (k, b)]) j = cnt s j + if k = j then 1 else 0 := fun j => by rw [cnt_snoc]; simp [itKd]
  have pos := cnt_nonneg s k
  refine ⟨fun j => ?_, fun p hp => ?_, ?_⟩
  · rw [look_putI, e1, e]
    by_cases h : j = k
    · subst h
      rw [if_pos rfl, if_pos rfl, if_neg (by omega)]
    · have h' : ¬ k = j := fun z => h z.symm
      have h2 : ¬ (Sum.inr j : Key) = Sum.inr k := fun z => h (Sum.inr.inj z)
      rw [if_neg h2, if_neg h', c.at_ j, Int.add_zero]
  · rcases mem_putI hp with h | ⟨h, hk⟩
    · exact ⟨k, by rw [h, e1, e, if_pos rfl]⟩
    · obtain ⟨j, rfl⟩ := c.mem p h
      refine ⟨j, ?_⟩
      have h' : ¬ k = j := fun z => hk (by rw [z])
      rw [e, if_neg h', Int.add_zero]
  · have := putI_len l (.inr k) ((look l (.inr k)).getD 0 + 1)
    have := c.len
    rw [List.length_append, List.length_singleton]
    omega
section
variable {P : Program} {w : World} {K : PySem.W.Frag} {mg : Str → Option Value} {base : Heap}
def pr_counts_in (K : PySem.W.Frag) : Pr := fun vs H Q => ∃ t st, vs = [.ref t] ∧ StAt H t st ∧ st.length ≤ 100 ∧ ∀ d l H', Same H H' → H d = none → H' d = some (.dK (DI l)) → CntOk st l → Q (.ref d) H'
theorem sc_counts_in : FnScope ["standing", "found", "item"] ["standing"] (defScope s_counts_in) := ⟨rfl, rfl, rfl, by decide +kernel, rfl, by decide +kernel, by decide +kernel⟩
theorem ok_counts_in (T : T K mg) : Ok P w K mg base 1 (He.ga K "counts_in") (pr_counts_in K) := by
  refine Dn.ok T.counts_in sc_counts_in (fun _ _ _ _ _ _ us hl => match us, hl with | [_], _ => rfl) (fun vs H Q h => ?_) fun cdv A outer s H vs Q E hr h => ?_
  · obtain ⟨_, _, rfl, _⟩ := h
    rfl
  obtain ⟨t, st, rfl, S, hz, h⟩ := h
  obtain ⟨xs, hx, px⟩ := id S
  have el : xs.length = st.length := Paired.length px
  refine ⟨_, (pss_cons (ps_set (i := 1) sc_counts_in.nd rfl (by first | exact .inl rfl | exact .inr rfl) pe_dnewK) (pss_cons (ps_for PassesOwn.never rfl (piT (K := K) rfl (pv 0)) (pg_name (i := 2) sc_counts_in.nd rfl (by first | exact .inl rfl | exact .inr rfl)) (pss_one (ps_if (pt_cmpR (op_neP (K := K) rfl (by exact hr.units)) (pv 2) (pe_tup pa_nil) (nomark _)) (pss_one (ps_dput (hu_of hr) (pv 1) (pe_ix (ixT (K := K) rfl) (pv 2) pe_int (fun _ _ => rfl)) (pe_op op_add (pe_dget2 (hu_of hr) (pv 1) (pe_ix (ixT (K := K) rfl) (pv 2) pe_int (fun _ _ => rfl)) pe_int ⟨rfl, rfl, rfl, rfl⟩) pe_int) rfl)) pss_nil))) (pss_one (ps_ret (pv 1))))), ?_⟩
  refine fun d hd => ⟨_, rfl, t, rfl, ⟨_, SqT.of ((sms H).up hd _ _ hx)⟩, ?_⟩
  refine for_it walk_tup (fun i σ H1 => ∃ v l, σ = [some (.ref t), some (.ref d), v] ∧ Same H H1 ∧ H1 d = some (.dK (DI l)) ∧ CntOk (st.take i) l) ⟨none, [], rfl, (sms H).up hd, upd_same, ⟨fun k => by simp [look, cnt], (fun p hp => by cases hp), by simp⟩⟩ (fun i σ H1 _ ⟨_, _, _, s1, _⟩ => SqT.of (s1 _ _ hx)) ?_ ?_
  · rintro i x σ H1 H' hi ⟨v, l, rfl, s1, h1, c⟩ ⟨rfl, e2⟩
    obtain ⟨it, hi2, hit⟩ := paired_at px e2
    refine ⟨_, rfl, by show 0 ≤ sizeLine; decide, fun p hp => ?_⟩
    have s2 := s1.up hp (o := .tup [])
    have hit1 : ItAt _ x it := hit.mono s2.tk
    have h2 : (upd H' p (.tup [])) d = some (.dK (DI l)) := (sms H').up hp _ _ h1
    refine ⟨itD it, itD none, hit1.dp, (show ItAt _ (V.ref p) none from ⟨p, rfl, upd_same⟩).dp, itD_plain _, itD_plain _, by have := itD_depth it; omega, _, rfl, ?_⟩
    have hlen : l.length ≤ 100 := by have := c.len; rw [List.length_take] at this; omega
    cases it with
    | none =>
      refine iteFe (by rw [itD_eqv]; rfl) ⟨_, l, rfl, s2, h2, ?_⟩
      rw [take_snoc hi2]
      exact c.none
    | some kb =>
      obtain ⟨k, b⟩ := kb
      obtain ⟨a, rfl, ha⟩ := hit1
      refine iteTe (by rw [itD_eqv]; rfl) ⟨_, rfl, d, rfl, .inl ⟨_, .inl h2⟩, _, rfl, _, _, _, _, rfl, rfl, SqT.of ha, rfl, _, DGet.di (k := .inr k) h2, _, _, getD_int _ _, rfl, ?_⟩
      refine ⟨_, rfl, _, rfl, _, _, _, _, rfl, rfl, SqT.of ha, rfl, d, _, rfl, DPut.k (k := .inr k) h2 (by rw [DI_length, sizeLine_eq]; omega), ?_⟩
      refine ⟨_, putI l (.inr k) ((look l (.inr k)).getD 0 + 1), rfl, s2.new hd, ?_, ?_⟩
      · rw [upd_same]
        exact congrArg (fun z => some (HO.dK z)) (DI_putI _ _ _)
      · rw [take_snoc hi2]
        exact c.some
  · rintro σ H1 ⟨v, l, rfl, s1, h1, c⟩
    refine ⟨_, rfl, h d l H1 s1 hd h1 ?_⟩
    rw [el, List.take_length] at c
    exact c
end
end U

set_option Elab.async false
set_option linter.all false
set_option maxRecDepth 100000
set_option maxHeartbeats 4000000
/-! is_standing, old_songs. -/
namespace U
open PySem PySem.Spec PyProof.Rows L2
theorem tkBl : TkR (fun (_ : Hp) v (n : Bool) => v = V.bl n) := fun _ h => h
theorem all_rep (n : Nat) : (List.replicate n true).all id = true := by simp
theorem look_of {l : List (Key × Int)} {p : Key × Int} (h : p ∈ l) : ∃ n, look l p.1 = some n := by
  cases e : look l p.1 with
  | some n => exact ⟨n, rfl⟩
  | none =>
    simp only [look, Option.map_eq_none_iff, List.find?_eq_none, decide_eq_true_eq] at e
    exact absurd rfl (e p h)
theorem DI_at {l : List (Key × Int)} {i : Nat} {k : Key} {v : V} (h : (DI l)[i]? = some (k, v)) : ∃ n, l[i]? = some (k, n) ∧ v = .int n := by
  unfold DI at h
  rw [List.getElem?_map] at h
  obtain ⟨p, hp, e⟩ := Option.map_eq_some_iff.mp h
  cases e
  exact ⟨p.2, hp, rfl⟩
theorem DGet.at1 {H : Hp} {a : Addr} {l : List (Key × Int)} {k : Key} {n : Int} (e : H a = some (.dK (DI l))) (h : look l k = some n) : DGet H a (kV k) (some (.int n)) := by
  have := DGet.di (k := k) e
  rw [h] at this
  exact this
theorem DGet.at1f {H : Hp} {a : Addr} {ob : Obj} {l : List (Key × Int)} {k : Key} {n : Int} (e : H a = some (.frz ob (.dK (DI l)))) (h : look l k = some n) : DGet H a (kV k) (some (.int n)) := by
  have := DGet.dif (k := k) e
  rw [h] at this
  exact this
theorem DGet.at0 {H : Hp} {a : Addr} {l : List (Key × Int)} {k : Key} (e : H a = some (.dK (DI l))) (h : look l k = none) : DGet H a (kV k) none := by
  have := DGet.di (k := k) e
  rw [h] at this
  exact this
section
variable {P : Program} {w : World} {K : PySem.W.Frag} {mg : Str → Option Value} {base : Heap}
/-- what stands at the arguments rule, songs, standing -/
structure Arg (K : PySem.W.Frag) (H : Hp) (r o t : Addr) (ru : Ru) (so : So) (st : Stn) : Prop where
  R : RuAt K H r ru
  S : SoAt K H o so
  St : StAt H t st
  ro : RuOk ru
  sk : SoOk so
  ok : StOk ru so st
theorem Arg.mono {H H' : Hp} {r o t : Addr} {ru : Ru} {so : So} {st : Stn} (k : Same H H') (A : Arg K H r o t ru so st) : Arg K H' r o t ru so st := ⟨A.R.mono k, A.S.mono k, A.St.mono k.tk, A.ro, A.sk, A.ok⟩
theorem Arg.len {H : Hp} {r o t : Addr} {ru : Ru} {so : So} {st : Stn} (A : Arg K H r o t ru so st) : st.length ≤ 3 := by have := A.ok.len; have := A.ro.w4; omega
def pr_is_standing (K : PySem.W.Frag) : Pr := fun vs H Q => ∃ r o t ru so st, vs = [.ref r, .ref o, .ref t] ∧ Arg K H r o t ru so st ∧ ∀ H', Same H H' → Q (.bl true) H'
theorem sc_is_standing : FnScope ["rule", "songs", "thing", "item", "counts", "kind"] ["rule", "songs", "thing"] (defScope s_is_standing) := ⟨rfl, rfl, rfl, by decide +kernel, rfl, by decide +kernel, by decide +kernel⟩
theorem ok_is_standing (T : T K mg) : Ok P w K mg base 4 (He.ga K "is_standing") (pr_is_standing K) := by
  refine Dn.ok T.is_standing sc_is_standing (fun _ _ _ _ _ _ us hl => match us, hl with | [_, _, _], _ => rfl) (fun vs H Q h => ?_) fun cdv A outer s H vs Q E hr h => ?_
  · obtain ⟨_, _, _, _, _, _, rfl, _⟩ := h
    rfl
  obtain ⟨r, o, t, ru, so, st, rfl, Ar, h⟩ := h
  obtain ⟨xs, hx, px⟩ := id Ar.St
  obtain ⟨rdx, rwa, rsa, hr1, _, _⟩ := id Ar.R
  obtain ⟨odx, od, ho1, _⟩ := id Ar.S
  have el : xs.length = st.length := Paired.length px
  have hl := Ar.len
  have w1 := Ar.ro.w1
  have eln := Ar.ok.len
  refine ⟨_, (pss_cons (ps_if (PW.pt (pw_or (pt_not (pt_val (pe_callB (isiK (K := K) rfl) rfl T.z_isinstance b_isinstance (pa_cons (pv 2) (pa_cons (pe_bltn (v := .ty "tuple") rfl T.z_tuple b_tuple rfl) pa_nil))))) (pw_or (pt_cmpR op_ne (pe_callB (lenK (K := K) rfl) rfl T.z_len b_len (pa_cons (pv 2) pa_nil)) (pe_op op_sub (pe_prp T.Rule_cap.pr T.kRule (ok_Rule_cap T) (hr.mono (by decide)) (pv 0) rfl) pe_int) (nomark _)) (pw_or1 (pt_not (pt_val (pe_callB (cr_all rfl) rfl T.z_all b_all (pa_cons (pe_lc (own := [("item", 3)]) (g := gName 3) (tt := tYes) rfl sc_is_standing.nd  (piT (K := K) rfl (pv 2)) (blkOk_by (N := ["rule", "songs", "thing", "item", "counts", "kind"]) (sc := defScope s_is_standing) (by decide +kernel)) (fun _ _ _ _ _ => pg_name (i := 3) sc_is_standing.nd rfl (by first | exact .inl rfl | exact .inr rfl)) (fun _ _ _ _ _ => pts_nil) (fun _ _ _ _ _ => (pe_cal (ok_is_item T) (hr.mono (by decide)) rfl T.is_item (pa_cons (pv 1) (pa_cons (pv 3) pa_nil))))) pa_nil)))))))) (pss_one (ps_ret pe_bl)) pss_nil) (pss_cons (ps_set (i := 4) sc_is_standing.nd rfl (by first | exact .inl rfl | exact .inr rfl) (pe_cal (ok_counts_in T) (hr.mono (by decide)) rfl T.counts_in (pa_cons (pv 2) pa_nil))) (pss_one (ps_ret (pe_callB (cr_all rfl) rfl T.z_all b_all (pa_cons (pe_lock (pe_lc (own := [("kind", 5)]) (g := gName 5) (tt := tYes) rfl sc_is_standing.nd  (pi_keys (pv 4)) (blkOk_by (N := ["rule", "songs", "thing", "item", "counts", "kind"]) (sc := defScope s_is_standing) (by decide +kernel)) (fun _ _ _ _ _ => pg_name (i := 5) sc_is_standing.nd rfl (by first | exact .inl rfl | exact .inr rfl)) (fun _ _ _ _ _ => pts_nil) (fun _ _ _ _ _ => (pe_cmpR op_le (pe_dget (hu_of hr) (pv 4) (pv 5) (fun _ _ => rfl)) (pe_ownItem T.mtItem.at_ T.fItem T.mtItem.fn (ok_getitem T) (hr.mono (by decide)) (pv 1) (pv 5) (fun _ _ => rfl)) (nomark _))))) pa_nil)))))), ?_⟩
  refine ⟨_, rfl, _, _, _, _, true, rfl, .ty "tuple", .base (.tup hx), kit_ty (by decide +kernel : kitB "tuple" "tuple" = some true), _, rfl, iteF ?_⟩
  refine ⟨_, rfl, _, st.length, rfl, .inr ⟨xs, SqT.of hx, el.symm⟩, _, rfl, r, _, _, rfl, hr1, r, ru, rfl, Ar.R, _, _, rfl, rfl, rfl, _, rfl, iteFe ?_ ?_⟩
  · have : V.int ((st.length : Nat) : Int) = V.int ((ru.w.length : Nat) - 1 : Int) := by rw [← eln]; congr 1; omega
    show (!decide (V.int ((st.length : Nat) : Int) = V.int ((ru.w.length : Nat) - 1 : Int))) = false
    rw [decide_eq_true this]
    rfl
  refine ⟨_, rfl, t, rfl, ⟨_, SqT.of hx⟩, fun D hD => ?_⟩
  refine lc_go rel_same walk_tup hD (sms _) (fun i => List.replicate i true) (fun _ v b => v = V.bl b) rfl (fun H1 s1 => SqT.of (s1 _ _ hx)) ?_ ?_
  · rintro i x H1 H' hi I ⟨rfl, e2⟩
    obtain ⟨it, hi2, hit⟩ := paired_at px e2
    refine ⟨rfl, _, rfl, _, rfl, o, so, x, it, rfl, Ar.S.mono I.rl, hit.mono I.rl.tk, fun k b e => Ar.ok.kin k b (e ▸ List.mem_of_getElem? hi2), fun H2 s2 => I.step rel_same hD tkBl (by omega) s2 List.replicate_succ' rfl⟩
  intro us H1 h1 s1 p1
  refine ⟨D, List.replicate xs.length true, rfl, SqL.of (by rw [h1, paired_eq p1]), _, rfl, ?_⟩
  rw [all_rep]
  refine iteF ?_
  have A1 := Ar.mono s1
  refine ⟨_, rfl, t, st, rfl, A1.St, by omega, fun d l H2 s2 hd h2 c => ?_⟩
  refine ⟨d, _, h2, trivial, fun ob => ⟨_, rfl, d, ob, rfl, .inl ⟨_, upd_same, fun D' hD' => ?_⟩⟩⟩
  have sL : Same H (upd H2 d (.frz ob (.dK (DI l)))) := (s1.trans s2).new (s1.free hd)
  have hll : (DI l).length ≤ 3 := by rw [DI_length]; exact Nat.le_trans c.len hl
  obtain ⟨nDd, hD2⟩ := lock_free hD'
  refine lc_go rel_same walk_keys hD' (sms _) (fun i => List.replicate i true) (fun _ v b => v = V.bl b) rfl (fun H3 s3 => s3 _ _ upd_same) ?_ ?_
  · rintro i x H3 H' hi I ⟨rfl, k, v, e, rfl⟩
    obtain ⟨n, e1, rfl⟩ := DI_at e
    have hm := List.mem_of_getElem? e1
    obtain ⟨kk, ek⟩ := c.mem _ hm
    cases ek
    obtain ⟨m, em⟩ := look_of hm
    have em2 := c.at_ kk
    rw [em] at em2
    have hne : cnt st kk ≠ 0 := fun z => by rw [if_pos z] at em2; cases em2
    rw [if_neg hne] at em2
    cases em2
    have hk : kk ∈ so.map (·.1) := by
      have hp : 0 < st.countP (itKd kk) := by unfold cnt at hne; omega
      obtain ⟨it, hit, e3⟩ := List.countP_pos_iff.mp hp
      cases it with
      | none => simp [itKd] at e3
      | some kb =>
        simp [itKd] at e3
        exact Ar.ok.kin kk kb.2 (by rw [← e3]; exact hit)
    obtain ⟨n, en⟩ := ks_mem hk
    have few := Ar.ok.few kk hk
    unfold num at few
    rw [en] at few
    refine ⟨rfl, _, rfl, _, rfl, d, _, rfl, DGet.at1f (I.rl _ _ upd_same) em, _, rfl, _, rfl, o, _, _, rfl, (sL.trans I.rl) _ _ ho1, o, so, kk, n, rfl, Ar.S.mono (sL.trans I.rl), en, hk, _, _, rfl, rfl, I.step rel_same hD' tkBl (by omega) (sms _) List.replicate_succ' ?_⟩
    exact congrArg V.bl (decide_eq_true few)
  intro us' H3 h3 s3 p3
  refine ⟨s3 _ _ upd_same, D', List.replicate (DI l).length true, rfl, SqL.of (by rw [upd_ne nDd, h3, paired_eq p3]), ?_⟩
  rw [all_rep]
  exact h _ ((s1.trans s2).trans (unlock h2 s3))
def pr_need_standing (K : PySem.W.Frag) : Pr := fun vs H Q => ∃ r o t ru so st, vs = [.ref r, .ref o, .ref t] ∧ Arg K H r o t ru so st ∧ ∀ H', Same H H' → Q .non H'
theorem sc_need_standing : FnScope ["rule", "songs", "standing"] ["rule", "songs", "standing"] (defScope s_need_standing) := ⟨rfl, rfl, rfl, by decide +kernel, rfl, by decide +kernel, by decide +kernel⟩
theorem ok_need_standing (T : T K mg) : Ok P w K mg base 5 (He.ga K "need_standing") (pr_need_standing K) := by
  refine Dn.ok T.need_standing sc_need_standing (fun _ _ _ _ _ _ us hl => match us, hl with | [_, _, _], _ => rfl) (fun vs H Q h => ?_) fun cdv A outer s H vs Q E hr h => ?_
  · obtain ⟨_, _, _, _, _, _, rfl, _⟩ := h
    rfl
  obtain ⟨r, o, t, ru, so, st, rfl, Ar, h⟩ := h
  refine ⟨_, (pss_one (ps_if (pt_not (pt_val (pe_cal (ok_is_standing T) (hr.mono (by decide)) rfl T.is_standing (pa_cons (pv 0) (pa_cons (pv 1) (pa_cons (pv 2) pa_nil)))))) (pss_one ps_never) pss_nil)), ?_⟩
  exact ⟨_, rfl, _, rfl, _, rfl, r, o, t, ru, so, st, rfl, Ar, fun H' s' => ⟨_, rfl, iteF (h H' s')⟩⟩
/-! ### old songs -/
def left (so : So) (st : Stn) : So := so.map fun p => (p.1, p.2 - cnt st p.1)
theorem nodup_inr {l : List Str} (h : l.Nodup) : (l.map (Sum.inr : Str → Key)).Nodup := List.Pairwise.map _ (fun a b n e => n (Sum.inr.inj e)) h
theorem ks_keys (so : So) : (ks so).map (·.1) = so.map fun p => Sum.inr p.1 := by simp
theorem ks_nodup {so : So} (h : (so.map (·.1)).Nodup) : ((ks so).map (·.1)).Nodup := by
  rw [ks_keys, show (so.map fun p => (Sum.inr p.1 : Key)) = (so.map (·.1)).map Sum.inr by simp]
  exact nodup_inr h
theorem take_keys {l : List (Key × Int)} {i : Nat} {p : Key × Int} (nd : (l.map (·.1)).Nodup) (h : l[i]? = some p) : p.1 ∉ (l.take i).map (·.1) := by
  have e : l = l.take i ++ p :: l.drop (i + 1) := by
    have hi := (List.getElem?_eq_some_iff.mp h).1
    have := (List.getElem?_eq_some_iff.mp h).2
    rw [← this, List.getElem_cons_drop, List.take_append_drop]
  rw [e, List.map_append, List.map_cons, List.nodup_append] at nd
  intro z
  exact nd.2.2 _ z _ (by simp) rfl
def pr_old_songs (K : PySem.W.Frag) : Pr := fun vs H Q => ∃ o t so st, vs = [.ref o, .ref t] ∧ SoAt K H o so ∧ SoOk so ∧ StAt H t st ∧ st.length ≤ 100 ∧ ∀ d H', Same H H' → H d = none → H' d = some (.dK (DI (ks (old so st)))) → Q (.ref d) H'
theorem sc_old_songs : FnScope ["songs", "standing", "counts", "numbers", "left", "kind"] ["songs", "standing"] (defScope s_old_songs) := ⟨rfl, rfl, rfl, by decide +kernel, rfl, by decide +kernel, by decide +kernel⟩
theorem ok_old_songs (T : T K mg) : Ok P w K mg base 3 (He.ga K "old_songs") (pr_old_songs K) := by
  refine Dn.ok T.old_songs sc_old_songs (fun _ _ _ _ _ _ us hl => match us, hl with | [_, _], _ => rfl) (fun vs H Q h => ?_) fun cdv A outer s H vs Q E hr h => ?_
  · obtain ⟨_, _, _, _, rfl, _⟩ := h
    rfl
  obtain ⟨o, t, so, st, rfl, S, ok, St, hz, h⟩ := h
  refine ⟨_, (pss_cons (ps_asg (pe_tup (pa_cons (pe_cal (ok_counts_in T) (hr.mono (by decide)) rfl T.counts_in (pa_cons (pv 1) pa_nil)) (pa_cons (pe_prp T.Songs_numbers.pr T.kSongs (ok_Songs_numbers T) (hr.mono (by decide)) (pv 0) rfl) pa_nil))) (pg_tup rfl (pgs_cons (pg_name (i := 2) sc_old_songs.nd rfl (by first | exact .inl rfl | exact .inr rfl)) (pgs_cons (pg_name (i := 3) sc_old_songs.nd rfl (by first | exact .inl rfl | exact .inr rfl)) pgs_nil)))) (pss_cons (ps_set (i := 4) sc_old_songs.nd rfl (by first | exact .inl rfl | exact .inr rfl) (pe_lock (pe_dc (own := [("kind", 5)]) (g := gName 5) (tt := tYes) rfl sc_old_songs.nd  (pi_keys (pv 3)) (blkOk_by (N := ["songs", "standing", "counts", "numbers", "left", "kind"]) (sc := defScope s_old_songs) (by decide +kernel)) (fun _ _ _ _ _ => pg_name (i := 5) sc_old_songs.nd rfl (by first | exact .inl rfl | exact .inr rfl)) (fun _ _ _ _ _ => pts_nil) (fun _ _ _ _ _ => (pv 5)) (fun _ _ _ _ _ => (pe_op op_sub (pe_dget (hu_of hr) (pv 3) (pv 5) (fun _ _ => rfl)) (pe_dget2 (hu_of hr) (pv 2) (pv 5) pe_int ⟨rfl, rfl, rfl, rfl⟩)))))) (pss_one (ps_ret (pe_lock (pe_dc (own := [("kind", 5)]) (g := gName 5) rfl sc_old_songs.nd  (pi_keys (pv 4)) (blkOk_by (N := ["songs", "standing", "counts", "numbers", "left", "kind"]) (sc := defScope s_old_songs) (by decide +kernel)) (fun _ _ _ _ _ => pg_name (i := 5) sc_old_songs.nd rfl (by first | exact .inl rfl | exact .inr rfl)) (fun _ _ _ _ _ => (pts_one (pt_cmpR op_gt (pe_dget (hu_of hr) (pv 4) (pv 5) (fun _ _ => rfl)) pe_int (nomark _)))) (fun _ _ _ _ _ => (pv 5)) (fun _ _ _ _ _ => (pe_dget (hu_of hr) (pv 4) (pv 5) (fun _ _ => rfl))))))))), ?_⟩
  refine ⟨_, rfl, t, st, rfl, St, hz, fun c l H1 s1 hc h1 ck => ?_⟩
  obtain ⟨odx, od, ho1, ho2⟩ := id S
  have l3 := ok.l3
  have nd := ks_nodup ok.nd
  refine ⟨_, rfl, o, _, _, rfl, s1 _ _ ho1, o, so, rfl, S.mono s1, fun n hn => ?_⟩
  have s2 := s1.up hn (o := .dK (DI (ks so)))
  refine ⟨by show 2 ≤ sizeLine; decide, fun tt htt => ?_⟩
  have s3 := s2.up htt (o := .tup [.ref c, .ref n])
  have ncn : c ≠ n := fun z => by rw [z, hn] at h1; cases h1
  have h1' : (upd (upd H1 n (.dK (DI (ks so)))) tt (.tup [.ref c, .ref n])) c = some (.dK (DI l)) := ((sms H1).up hn |>.up htt) _ _ h1
  have h2' : (upd (upd H1 n (.dK (DI (ks so)))) tt (.tup [.ref c, .ref n])) n = some (.dK (DI (ks so))) := (sms (upd H1 n (.dK (DI (ks so))))).up htt _ _ upd_same
  refine ⟨tt, _, rfl, SqT.of upd_same, rfl, _, _, rfl, _, _, rfl, rfl, ?_⟩
  generalize hH3 : upd (upd H1 n (.dK (DI (ks so)))) tt (.tup [.ref c, .ref n]) = H3 at *
  have hn0 : H n = none := s1.free hn
  refine ⟨n, _, h2', trivial, fun ob => ⟨_, rfl, n, ob, rfl, .inl ⟨_, upd_same, fun D hD => ?_⟩⟩⟩
  obtain ⟨nDn, hD3⟩ := lock_free hD
  have kl : (DI (ks so)).length = so.length := by rw [DI_length]; simp
  refine dc_go rel_same walk_keys hD (sms _) (fun i => (ks (left so st)).take i) rfl (fun H4 s4 => s4 _ _ upd_same) ?_ ?_
  · rintro i x H4 H' hi I ⟨rfl, k, v, e, rfl⟩
    obtain ⟨m, e1, rfl⟩ := DI_at e
    have e1' := e1
    rw [List.getElem?_map] at e1
    obtain ⟨p, hp, e3⟩ := Option.map_eq_some_iff.mp e1
    cases e3
    have lk := look_mem nd (List.mem_of_getElem? e1')
    have hg : H' c = some (.dK (DI l)) := I.rl _ _ (by rw [upd_ne ncn]; exact h1')
    have e5 : (ks (left so st))[i]? = some (Sum.inr p.1, p.2 - cnt st p.1) := by simp [left, hp]
    refine ⟨rfl, _, rfl, _, rfl, _, rfl, n, _, rfl, DGet.at1f (I.rl _ _ upd_same) lk, _, rfl, c, rfl, .inl ⟨_, .inl hg⟩, _, rfl, _, DGet.di (k := .inr p.1) hg, _, _, rfl, getD_int _ _, ?_⟩
    have ec : (look l (.inr p.1)).getD 0 = cnt st p.1 := by
      rw [ck.at_]
      by_cases q : cnt st p.1 = 0 <;> simp [q]
    rw [ec]
    refine I.step (y := .inr p.1) rel_same hD (by omega) (sms _) ?_ ?_
    · have := take_keys (l := ks (left so st)) (p := (Sum.inr p.1, p.2 - cnt st p.1)) ?_ e5
      · exact this
      · rw [ks_keys]
        have := nd
        rw [ks_keys] at this
        simpa [left, Function.comp_def] using this
    · exact take_snoc e5
  intro H4 h4 s4
  refine ⟨s4 _ _ upd_same, ?_⟩
  have s5 : Same H (upd H4 n (.dK (DI (ks so)))) := s3.trans (unlock h2' s4)
  have eL : (ks (left so st)).take (DI (ks so)).length = ks (left so st) := by
    apply List.take_of_length_le
    rw [kl]; simp [left]
  rw [eL] at h4
  generalize hH5 : upd H4 n (.dK (DI (ks so))) = H5 at *
  have h5 : H5 D = some (.dK (DI (ks (left so st)))) := by rw [← hH5, upd_ne nDn]; exact h4
  have hD0 : H D = none := s3.free hD3
  have nd2 : ((ks (left so st)).map (·.1)).Nodup := by
    have := nd
    rw [ks_keys] at this ⊢
    simpa [left, Function.comp_def] using this
  refine ⟨D, _, h5, trivial, fun ob2 => ⟨_, rfl, D, ob2, rfl, .inl ⟨_, upd_same, fun E hE => ?_⟩⟩⟩
  obtain ⟨nED, hE3⟩ := lock_free hE
  have kl2 : (DI (ks (left so st))).length = so.length := by rw [DI_length]; simp [left]
  refine dc_go rel_same walk_keys hE (sms _) (fun i => ks (((left so st).take i).filter fun p => decide (0 < p.2))) (by simp) (fun H6 s6 => s6 _ _ upd_same) ?_ ?_
  · rintro i x H6 H' hi I ⟨rfl, k, v, e, rfl⟩
    obtain ⟨m, e1, rfl⟩ := DI_at e
    have e1' := e1
    rw [List.getElem?_map] at e1
    obtain ⟨p, hp, e3⟩ := Option.map_eq_some_iff.mp e1
    cases e3
    have lk := look_mem nd2 (List.mem_of_getElem? e1')
    have hg : H' D = _ := I.rl _ _ upd_same
    refine ⟨rfl, _, rfl, _, rfl, D, _, rfl, DGet.at1f hg lk, _, _, rfl, rfl, _, rfl, ?_⟩
    by_cases q : 0 < p.2
    · refine iteTe (by simpa using q) ⟨_, rfl, _, rfl, _, rfl, D, _, rfl, DGet.at1f hg lk, ?_⟩
      refine I.step (y := .inr p.1) rel_same hE (by omega) (sms _) ?_ ?_
      · intro z
        have := take_keys nd2 e1'
        refine this ?_
        rw [← List.map_take]
        simp only [List.map_map] at z ⊢
        obtain ⟨q1, hq1, e7⟩ := List.mem_map.mp z
        exact List.mem_map.mpr ⟨q1, (List.mem_filter.mp hq1).1, e7⟩
      · rw [take_snoc hp, List.filter_append, ks, List.map_append]
        simp [q]
    · refine iteFe (by simpa using q) (I.skip rel_same hE (sms _) ?_)
      rw [take_snoc hp, List.filter_append, ks, List.map_append]
      simp [q]
  intro H6 h6 s6
  refine ⟨s6 _ _ upd_same, h E _ (s5.trans (unlock h5 s6)) (s5.free hE3) ?_⟩
  rw [upd_ne nED, h6, kl2, List.take_of_length_le (by simp [left])]
  rfl
end
end U

set_option Elab.async false
set_option linter.all false
set_option maxRecDepth 100000
set_option maxHeartbeats 4000000
/-! The weights. -/
namespace U
open PySem PySem.Spec PyProof.Rows L2
theorem upd_upd' (H : Hp) (a : Addr) (o u : HO) : upd (upd H a o) a u = upd H a u := by
  funext b
  by_cases h : b = a
  · subst h; rw [upd_same, upd_same]
  · rw [upd_ne h, upd_ne h, upd_ne h]
theorem flat_strs (bs : List Str) : (bs.map V.str).all flatV = true := by simp [flatV]
theorem inV_str (k : Str) (bs : List Str) : inV (.str k) (bs.map V.str) = decide (k ∈ bs) := by
  induction bs with
  | nil => simp [inV]
  | cons b r ih =>
    have e : inV (.str k) (List.map V.str (b :: r)) = (eqV (.str b) (.str k) || inV (.str k) (r.map V.str)) := rfl
    rw [e, ih]
    by_cases h : k = b
    · subst h
      simp [eqV]
    · have h' : ¬ b = k := fun z => h z.symm
      simp [eqV, h, h']
theorem mem_agesFrom {st : Stn} : ∀ {i : Nat} {a : Int}, a ∈ agesFrom i st ↔ ∃ j k b, st[j]? = some (some (k, b)) ∧ a = ((i + j : Nat) : Int) + 1 := by
  induction st with
  | nil => intro i a; simp [agesFrom]
  | cons it r ih =>
    intro i a
    rw [agesFrom, List.mem_append, ih]
    constructor
    · rintro (h | ⟨j, k, b, h, e⟩)
      · cases it with
        | none => simp [agesF] at h
        | some kb =>
          simp [agesF] at h
          exact ⟨0, kb.1, kb.2, rfl, by rw [h]; rfl⟩
      · exact ⟨j + 1, k, b, by simpa using h, by rw [e]; omega⟩
    · rintro ⟨j, k, b, h, e⟩
      cases j with
      | zero =>
        left
        simp at h
        subst h
        simp [agesF, e]
      | succ j => exact .inr ⟨j, k, b, by simpa using h, by rw [e]; omega⟩
theorem agesFrom_sorted {st : Stn} : ∀ {i : Nat}, (agesFrom i st).Pairwise (· < ·) := by
  induction st with
  | nil => intro i; exact .nil
  | cons it r ih =>
    intro i
    rw [agesFrom, List.pairwise_append]
    refine ⟨by unfold agesF; split <;> simp, ih, fun x hx y hy => ?_⟩
    obtain ⟨j, k, b, _, e⟩ := mem_agesFrom.mp hy
    unfold agesF at hx
    split at hx
    · cases hx
    · rw [List.mem_singleton] at hx
      omega
theorem ages_nodup (st : Stn) : (agesOf st).Nodup := List.Pairwise.imp (fun h e => by omega) (agesFrom_sorted (st := st) (i := 0))
theorem ages_len {st : Stn} : ∀ {i : Nat}, (agesFrom i st).length ≤ st.length := by
  induction st with
  | nil => intro i; exact Nat.le_refl _
  | cons it r ih =>
    intro i
    have := ih (i := i + 1)
    rw [agesFrom, List.length_append, List.length_cons]
    unfold agesF
    split <;> simp <;> omega
theorem old_len (so : So) (st : Stn) : (old so st).length ≤ so.length := by
  unfold old
  exact Nat.le_trans (List.length_filter_le _ _) (by simp)
theorem old_keys_nodup {so : So} (st : Stn) (h : (so.map (·.1)).Nodup) : ((old so st).map (·.1)).Nodup := by
  unfold old
  refine List.Sublist.nodup (List.Sublist.map _ List.filter_sublist) ?_
  simpa [Function.comp_def] using h
theorem told_keys (ru : Ru) (so : So) (st : Stn) : (told ru so st).map (·.1) = (agesOf st).map Sum.inl ++ (old so st).map fun p => Sum.inr p.1 := by simp [told, Function.comp_def]
theorem told_nodup {ru : Ru} {so : So} {st : Stn} (h : (so.map (·.1)).Nodup) : ((told ru so st).map (·.1)).Nodup := by
  rw [told_keys, List.nodup_append]
  refine ⟨List.Pairwise.map _ (fun a b n e => n (Sum.inl.inj e)) (ages_nodup st), ?_, ?_⟩
  · rw [show ((old so st).map fun p => (Sum.inr p.1 : Key)) = ((old so st).map (·.1)).map Sum.inr by simp]
    exact nodup_inr (old_keys_nodup st h)
  · intro x hx y hy e
    obtain ⟨a, _, rfl⟩ := List.mem_map.mp hx
    obtain ⟨p, _, rfl⟩ := List.mem_map.mp hy
    cases e
theorem told_len {ru : Ru} {so : So} {st : Stn} (h1 : st.length ≤ 3) (h2 : so.length ≤ 3) : (told ru so st).length ≤ 6 := by
  have := ages_len (st := st) (i := 0)
  have := old_len so st
  simp [told, agesOf]
  omega
theorem atI_get {xs : List V} {i : Int} {j : Nat} {v : V} (h : xs[j]? = some v) (e : i = (j : Nat)) : atI xs i = some v := by
  rw [e]
  exact atI_nat h
section
variable {P : Program} {w : World} {K : PySem.W.Frag} {mg : Str → Option Value} {base : Heap}
def pr_told (K : PySem.W.Frag) : Pr := fun vs H Q => ∃ r o t ru so st, vs = [.ref r, .ref o, .ref t] ∧ Arg K H r o t ru so st ∧ ∀ d H', Same H H' → H d = none → H' d = some (.dK (DI (told ru so st))) → Q (.ref d) H'
theorem sc_told_weights : FnScope ["rule", "songs", "standing", "barred", "found", "old", "age", "weights", "kind", "was_skipped"] ["rule", "songs", "standing"] (defScope s_told_weights) := ⟨rfl, rfl, rfl, by decide +kernel, rfl, by decide +kernel, by decide +kernel⟩
theorem ok_told_weights (T : T K mg) : Ok P w K mg base 4 (He.ga K "told_weights") (pr_told K) := by
  refine Dn.ok T.told_weights sc_told_weights (fun _ _ _ _ _ _ us hl => match us, hl with | [_, _, _], _ => rfl) (fun vs H Q h => ?_) fun cdv A outer s H vs Q E hr h => ?_
  · obtain ⟨_, _, _, _, _, _, rfl, _⟩ := h
    rfl
  obtain ⟨r, o, t, ru, so, st, rfl, Ar, h⟩ := h
  have hl := Ar.len
  have l3 := Ar.sk.l3
  have w1 := Ar.ro.w1
  have eln := Ar.ok.len
  have esl := Ar.ro.sl
  refine ⟨_, (pss_cons (ps_par3 (i := 3) (j := 4) (l := 5) rfl sc_told_weights.nd rfl rfl rfl (by decide) (by decide) (by decide) rfl rfl rfl (pa_cons (pe_cal (ok_barred_kinds T) (hr.mono (by decide)) rfl T.barred_kinds (pa_cons (pv 0) (pa_cons (pv 2) pa_nil))) (pa_cons pe_dnewK (pa_cons (pe_cal (ok_old_songs T) (hr.mono (by decide)) rfl T.old_songs (pa_cons (pv 1) (pa_cons (pv 2) pa_nil))) pa_nil))) (by rfl)) (pss_cons (ps_for PassesOwn.never rfl (piL (K := K) rfl (pe_cal (ok_ages_in T) (hr.mono (by decide)) rfl T.ages_in (pa_cons (pv 2) pa_nil))) (pg_name (i := 6) sc_told_weights.nd rfl (by first | exact .inl rfl | exact .inr rfl)) (pss_cons (ps_asg (pe_ix (ixT (K := K) rfl) (pv 2) (pe_op op_sub (pv 6) pe_int) (fun _ _ => rfl)) (pg_tup rfl (pgs_cons (pg_name (i := 8) sc_told_weights.nd rfl (by first | exact .inl rfl | exact .inr rfl)) (pgs_cons (pg_name (i := 9) sc_told_weights.nd rfl (by first | exact .inl rfl | exact .inr rfl)) pgs_nil)))) (pss_cons (ps_set (i := 7) sc_told_weights.nd rfl (by first | exact .inl rfl | exact .inr rfl) (pe_ifExp (pt_val (pv 9)) (pe_prp T.Rule_skipped.pr T.kRule (ok_Rule_skipped T) (hr.mono (by decide)) (pv 0) rfl) (pe_prp T.Rule_weights.pr T.kRule (ok_Rule_weights T) (hr.mono (by decide)) (pv 0) rfl))) (pss_one (ps_dput (hu_of hr) (pv 4) (pv 6) (pe_ifExp (pt_cmpR (inQ (K := K) rfl) (pv 8) (pv 3) (by rfl)) pe_int (pe_ix (ixT (K := K) rfl) (pv 7) (pe_op op_sub (pv 6) pe_int) (fun _ _ => rfl))) rfl))))) (pss_cons (ps_lock (ps_for PassesOwn.never rfl (pi_keys (pv 5)) (pg_name (i := 8) sc_told_weights.nd rfl (by first | exact .inl rfl | exact .inr rfl)) (pss_one (ps_dput (hu_of hr) (pv 4) (pv 8) (pe_ifExp (pt_cmpR (inQ (K := K) rfl) (pv 8) (pv 3) (by rfl)) pe_int (pe_op op_mul (pe_ix (ixT (K := K) rfl) (pe_prp T.Rule_weights.pr T.kRule (ok_Rule_weights T) (hr.mono (by decide)) (pv 0) rfl) (pe_un un_neg pe_int) (fun _ _ => rfl)) (pe_dget (hu_of hr) (pv 5) (pv 8) (fun _ _ => rfl)))) rfl)))) (pss_one (ps_ret (pv 4)))))), ?_⟩
  refine ⟨_, rfl, _, rfl, r, ru, t, st, rfl, Ar.R, Ar.ro, Ar.St, by omega, fun bl H1 s1 hbl hbln => fun d hd => ?_⟩
  have s2 := s1.up hd (o := .dK [])
  refine ⟨_, rfl, _, rfl, o, t, so, st, rfl, Ar.S.mono s2, Ar.sk, Ar.St.mono s2.tk, by omega, fun od H2 t2 hodn hod => ⟨_, _, _, rfl, ?_⟩⟩
  have hd0 : H d = none := s1.free hd
  have hod0 : H od = none := s2.free hodn
  have ndod : od ≠ d := fun z => by rw [z, upd_same] at hodn; cases hodn
  have nbd : bl ≠ d := ne_of_none hbl hd
  have hbl2 : H2 bl = some (.lst ((barred ru.n st).map V.str)) := t2 _ _ (by rw [upd_ne nbd]; exact hbl)
  have hd2 : H2 d = some (.dK []) := t2 _ _ upd_same
  have s3 := s2.trans t2
  refine ⟨_, rfl, t, st, rfl, Ar.St.mono s3.tk, by omega, fun al H3 t3 hal haln => ⟨al, rfl, ⟨_, SqL.of hal⟩, ?_⟩⟩
  have s4 := s3.trans t3
  have hbl3 := t3 _ _ hbl2
  have hd3 := t3 _ _ hd2
  have hod3 := t3 _ _ hod
  have nald : al ≠ d := fun z => by rw [z, hd2] at haln; cases haln
  have nod : bl ≠ od := fun z => by rw [z, hod3] at hbl3; cases hbl3
  have A4 := Ar.mono s4
  obtain ⟨xs, hx, px⟩ := id A4.St
  obtain ⟨rdx, rwa, rsa, hr1, _, _⟩ := id A4.R
  have el : xs.length = st.length := Paired.length px
  have ntd : ∀ {b : Addr} {ob : HO}, H b = some ob → b ≠ d := fun e => ne_of_none e hd0
  -- facts that stand while only d is written
  have Au : ∀ kvs, Arg K (upd H3 d (.dK kvs)) r o t ru so st := fun kvs => Ar.mono (s4.new hd0)
  have tx : t ≠ d := fun z => by obtain ⟨ys, hy, _⟩ := id Ar.St; exact ntd hy z
  have rx : r ≠ d := fun z => by obtain ⟨_, _, _, hy, _⟩ := id Ar.R; exact ntd hy z
  refine for_it (walk_list (xs := (agesOf st).map V.int)) (fun i σ H' => ∃ v6 v7 v8 v9, σ = [some (.ref r), some (.ref o), some (.ref t), some (.ref bl), some (.ref d), some (.ref od), v6, v7, v8, v9] ∧ H' = upd H3 d (.dK (DI (((agesOf st).take i).map fun a => (Sum.inl a, wtA ru (barred ru.n st) st a)))))
    ⟨none, none, none, none, rfl, ?_⟩ (fun i σ H' _ ⟨_, _, _, _, _, e⟩ => ?_) ?_ ?_
  · funext b
    by_cases q : b = d
    · subst q
      rw [upd_same, hd3]
      rfl
    · rw [upd_ne q]
  · subst e
    exact SqL.of (by rw [upd_ne nald]; exact hal)
  · rintro i x σ H4 H' hi ⟨v6, v7, v8, v9, rfl, rfl⟩ ⟨rfl, e⟩
    rw [List.getElem?_map] at e
    obtain ⟨a, ha, rfl⟩ := Option.map_eq_some_iff.mp e
    obtain ⟨j, k, b, hj, ea⟩ := mem_agesFrom.mp (List.mem_of_getElem? ha)
    rw [Nat.zero_add] at ea
    have hjl := (List.getElem?_eq_some_iff.mp hj).1
    have hxj : j < xs.length := by omega
    obtain ⟨it, hit, pit⟩ := paired_at px (List.getElem?_eq_getElem hxj)
    rw [hj] at hit
    cases hit
    obtain ⟨ia, eia, hia⟩ := pit
    have exj : xs[j]? = some (.ref ia) := by rw [List.getElem?_eq_getElem hxj, eia]
    have niad : ia ≠ d := fun z => by rw [z, hd3] at hia; cases hia
    have hAu := Au (DI (((agesOf st).take i).map fun a => (Sum.inl a, wtA ru (barred ru.n st) st a)))
    have hbu : (upd H3 d (.dK (DI (((agesOf st).take i).map fun a => (Sum.inl a, wtA ru (barred ru.n st) st a))))) bl = some (.lst ((barred ru.n st).map V.str)) := by rw [upd_ne nbd]; exact hbl3
    have ej : a - 1 = ((j : Nat) : Int) := by omega
    have kn : (Sum.inl a : Key) ∉ ((((agesOf st).take i).map fun a => ((Sum.inl a : Key), wtA ru (barred ru.n st) st a))).map (·.1) := by
      intro z
      rw [List.map_map] at z
      obtain ⟨a', h1, h2⟩ := List.mem_map.mp z
      cases h2
      have nd := ages_nodup st
      have e5 : agesOf st = (agesOf st).take i ++ a :: (agesOf st).drop (i + 1) := by
        have hi2 := (List.getElem?_eq_some_iff.mp ha).1
        have := (List.getElem?_eq_some_iff.mp ha).2
        rw [← this, List.getElem_cons_drop, List.take_append_drop]
      rw [e5, List.nodup_append] at nd
      exact nd.2.2 _ h1 _ (by simp) rfl
    have lenk : (((agesOf st).take i).map fun a => ((Sum.inl a : Key), wtA ru (barred ru.n st) st a)).length ≤ 3 := by
      have := ages_len (st := st) (i := 0)
      rw [List.length_map, List.length_take]
      unfold agesOf
      omega
    have fin : ∀ (n : Int), n = wtA ru (barred ru.n st) st a → upd (upd H3 d (.dK (DI (((agesOf st).take i).map fun a => (Sum.inl a, wtA ru (barred ru.n st) st a))))) d (.dK (putK (DI (((agesOf st).take i).map fun a => (Sum.inl a, wtA ru (barred ru.n st) st a))) (Sum.inl a) (.int n))) = upd H3 d (.dK (DI (((agesOf st).take (i + 1)).map fun a => (Sum.inl a, wtA ru (barred ru.n st) st a)))) := by
      intro n en
      rw [upd_upd', putDI kn, take_snoc ha, List.map_append, en]
      rfl
    have wv : wtA ru (barred ru.n st) st a = if k ∈ barred ru.n st then 0 else ((if b = true then ru.s else ru.w)[j]?).getD 0 := by
      unfold wtA
      rw [ej, Int.toNat_natCast, hj]
    have hsz : ∀ l : List (Key × Int), l.length ≤ 3 → (DI l).length < sizeLine := fun l h => by rw [DI_length, sizeLine_eq]; omega
    refine ⟨_, rfl, _, rfl, _, _, rfl, rfl, t, xs, _, _, rfl, rfl, SqT.of (by rw [upd_ne tx]; exact hx), atI_get exj ej, ia, _, rfl, SqT.of (by rw [upd_ne niad]; exact hia), rfl, _, _, rfl, _, _, rfl, rfl, ?_⟩
    refine ⟨_, rfl, b, rfl, ?_⟩
    by_cases hm : k ∈ barred ru.n st
    · have em : inV (.str k) ((barred ru.n st).map V.str) = true := by rw [inV_str, decide_eq_true hm]
      rw [if_pos hm] at wv
      cases b with
      | true =>
        exact iteT ⟨_, rfl, r, rdx, _, rfl, by rw [upd_ne rx]; exact hr1, r, ru, rfl, hAu.R, fun wa hwa =>
          ⟨_, rfl, _, rfl, bl, _, rfl, .inl (SqL.of hbu), rfl, flat_strs _, _, rfl, iteTe em ⟨_, rfl, _, rfl, d, _, rfl, DPut.k (k := .inl a) upd_same (hsz _ lenk), _, _, _, _, rfl, fin 0 wv.symm⟩⟩⟩
      | false =>
        exact iteF ⟨_, rfl, r, rdx, _, rfl, by rw [upd_ne rx]; exact hr1, r, ru, rfl, hAu.R, fun wa hwa =>
          ⟨_, rfl, _, rfl, bl, _, rfl, .inl (SqL.of hbu), rfl, flat_strs _, _, rfl, iteTe em ⟨_, rfl, _, rfl, d, _, rfl, DPut.k (k := .inl a) upd_same (hsz _ lenk), _, _, _, _, rfl, fin 0 wv.symm⟩⟩⟩
    · have em : inV (.str k) ((barred ru.n st).map V.str) = false := by rw [inV_str, decide_eq_false hm]
      rw [if_neg hm] at wv
      cases b with
      | true =>
        have hjs : j < ru.s.length := by omega
        have ew : wtA ru (barred ru.n st) st a = ru.s[j] := by rw [wv, if_pos rfl, List.getElem?_eq_getElem hjs]; rfl
        exact iteT ⟨_, rfl, r, rdx, _, rfl, by rw [upd_ne rx]; exact hr1, r, ru, rfl, hAu.R, fun wa hwa =>
          ⟨_, rfl, _, rfl, bl, _, rfl, .inl (SqL.of hbu), rfl, flat_strs _, _, rfl, iteFe em ⟨_, rfl, _, rfl, _, _, rfl, rfl, wa, _, _, .int (ru.s[j]), rfl, rfl, SqT.of hwa, atI_get (by rw [List.getElem?_map, List.getElem?_eq_getElem hjs]; rfl) ej,
            _, rfl, _, rfl, d, _, rfl, DPut.k (k := .inl a) upd_same (hsz _ lenk), _, _, _, _, rfl, fin _ ew.symm⟩⟩⟩
      | false =>
        have hjs : j < ru.w.length := by omega
        have ew : wtA ru (barred ru.n st) st a = ru.w[j] := by rw [wv, if_neg (by simp), List.getElem?_eq_getElem hjs]; rfl
        exact iteF ⟨_, rfl, r, rdx, _, rfl, by rw [upd_ne rx]; exact hr1, r, ru, rfl, hAu.R, fun wa hwa =>
          ⟨_, rfl, _, rfl, bl, _, rfl, .inl (SqL.of hbu), rfl, flat_strs _, _, rfl, iteFe em ⟨_, rfl, _, rfl, _, _, rfl, rfl, wa, _, _, .int (ru.w[j]), rfl, rfl, SqT.of hwa, atI_get (by rw [List.getElem?_map, List.getElem?_eq_getElem hjs]; rfl) ej,
            _, rfl, _, rfl, d, _, rfl, DPut.k (k := .inl a) upd_same (hsz _ lenk), _, _, _, _, rfl, fin _ ew.symm⟩⟩⟩
  · rintro σ H4 ⟨v6, v7, v8, v9, rfl, rfl⟩
    have eT : (agesOf st).take ((agesOf st).map V.int).length = agesOf st := by rw [List.length_map, List.take_length]
    rw [eT]
    have hodu : ∀ kvs, (upd H3 d (.dK kvs)) od = some (.dK (DI (ks (old so st)))) := fun kvs => by rw [upd_ne ndod]; exact hod3
    refine ⟨od, _, hodu _, trivial, fun ob => ?_⟩
    refine ⟨_, rfl, od, ob, rfl, .inl ⟨_, upd_same, ?_⟩⟩
    have nodk := ks_nodup (old_keys_nodup st Ar.sk.nd)
    refine for_it walk_keys (fun i σ H' => ∃ v6 v7 v8 v9, σ = [some (.ref r), some (.ref o), some (.ref t), some (.ref bl), some (.ref d), some (.ref od), v6, v7, v8, v9] ∧ H' = upd (upd H3 od (.frz ob (.dK (DI (ks (old so st)))))) d (.dK (DI ((agesOf st).map (fun a => (Sum.inl a, wtA ru (barred ru.n st) st a)) ++ ((old so st).take i).map fun p => (Sum.inr p.1, wtK ru (barred ru.n st) p)))))
      ⟨v6, v7, v8, v9, rfl, ?_⟩ (fun i σ H' _ ⟨_, _, _, _, _, e⟩ => ?_) ?_ ?_
    · rw [List.take_zero, List.map_nil, List.append_nil]
      funext b
      by_cases q1 : b = d
      · subst q1
        rw [upd_ne (Ne.symm ndod), upd_same, upd_same]
      · by_cases q2 : b = od
        · subst q2
          rw [upd_same, upd_ne q1, upd_same]
        · rw [upd_ne q2, upd_ne q1, upd_ne q1, upd_ne q2]
    · subst e
      rw [upd_ne ndod, upd_same]
    · rintro i x σ H4 H' hi ⟨v6, v7, v8, v9, rfl, rfl⟩ ⟨rfl, k, v, e, rfl⟩
      obtain ⟨m, e1, rfl⟩ := DI_at e
      have e1' := e1
      rw [List.getElem?_map] at e1
      obtain ⟨p, hp, e3⟩ := Option.map_eq_some_iff.mp e1
      cases e3
      have lk := look_mem nodk (List.mem_of_getElem? e1')
      have hlen : i ≤ 3 := by have := old_len so st; rw [DI_length, List.length_map] at hi; omega
      have ages3 := ages_len (st := st) (i := 0)
      have hAu : Arg K (upd (upd H3 od (.frz ob (.dK (DI (ks (old so st)))))) d (.dK (DI ((agesOf st).map (fun a => (Sum.inl a, wtA ru (barred ru.n st) st a)) ++ ((old so st).take i).map fun p => (Sum.inr p.1, wtK ru (barred ru.n st) p))))) r o t ru so st := Ar.mono ((s4.new hod0).new hd0)
      have hbu : (upd (upd H3 od (.frz ob (.dK (DI (ks (old so st)))))) d (.dK (DI ((agesOf st).map (fun a => (Sum.inl a, wtA ru (barred ru.n st) st a)) ++ ((old so st).take i).map fun p => (Sum.inr p.1, wtK ru (barred ru.n st) p))))) bl = some (.lst ((barred ru.n st).map V.str)) := by rw [upd_ne nbd, upd_ne nod]; exact hbl3
      have kn : (Sum.inr p.1 : Key) ∉ ((agesOf st).map (fun a => ((Sum.inl a : Key), wtA ru (barred ru.n st) st a)) ++ ((old so st).take i).map fun p => ((Sum.inr p.1 : Key), wtK ru (barred ru.n st) p)).map (·.1) := by
        intro z
        rw [List.map_append, List.mem_append] at z
        rcases z with z | z
        · rw [List.map_map] at z
          obtain ⟨a', _, h2⟩ := List.mem_map.mp z
          cases h2
        · have := take_keys nodk e1'
          refine this ?_
          rw [← List.map_take]
          simpa [Function.comp_def] using z
      have lenk : ((agesOf st).map (fun a => ((Sum.inl a : Key), wtA ru (barred ru.n st) st a)) ++ ((old so st).take i).map fun p => ((Sum.inr p.1 : Key), wtK ru (barred ru.n st) p)).length ≤ 6 := by
        rw [List.length_append, List.length_map, List.length_map, List.length_take]
        unfold agesOf
        omega
      have hsz : ∀ l : List (Key × Int), l.length ≤ 6 → (DI l).length < sizeLine := fun l h => by rw [DI_length, sizeLine_eq]; omega
      have fin : ∀ (n : Int), n = wtK ru (barred ru.n st) p → upd (upd (upd H3 od (.frz ob (.dK (DI (ks (old so st)))))) d (.dK (DI ((agesOf st).map (fun a => (Sum.inl a, wtA ru (barred ru.n st) st a)) ++ ((old so st).take i).map fun p => (Sum.inr p.1, wtK ru (barred ru.n st) p))))) d (.dK (putK (DI ((agesOf st).map (fun a => (Sum.inl a, wtA ru (barred ru.n st) st a)) ++ ((old so st).take i).map fun p => (Sum.inr p.1, wtK ru (barred ru.n st) p))) (Sum.inr p.1) (.int n)))
          = upd (upd H3 od (.frz ob (.dK (DI (ks (old so st)))))) d (.dK (DI ((agesOf st).map (fun a => (Sum.inl a, wtA ru (barred ru.n st) st a)) ++ ((old so st).take (i + 1)).map fun p => (Sum.inr p.1, wtK ru (barred ru.n st) p)))) := by
        intro n en
        rw [upd_upd', putDI kn, take_snoc hp, List.map_append, List.append_assoc, en]
        rfl
      have hgr : (upd (upd H3 od (.frz ob (.dK (DI (ks (old so st)))))) d (.dK (DI ((agesOf st).map (fun a => (Sum.inl a, wtA ru (barred ru.n st) st a)) ++ ((old so st).take i).map fun p => (Sum.inr p.1, wtK ru (barred ru.n st) p))))) od = some (.frz ob (.dK (DI (ks (old so st))))) := by rw [upd_ne ndod, upd_same]
      obtain ⟨rdx', rwa', rsa', hr1', hw', hs'⟩ := id hAu.R
      by_cases hm : p.1 ∈ barred ru.n st
      · have em : inV (.str p.1) ((barred ru.n st).map V.str) = true := by rw [inV_str, decide_eq_true hm]
        exact ⟨_, rfl, _, rfl, bl, _, rfl, .inl (SqL.of hbu), rfl, flat_strs _, _, rfl, iteTe em ⟨_, rfl, _, rfl, d, _, rfl, DPut.k (k := .inr p.1) upd_same (hsz _ lenk), _, _, _, _, rfl, fin 0 (by unfold wtK; rw [if_pos hm])⟩⟩
      · have em : inV (.str p.1) ((barred ru.n st).map V.str) = false := by rw [inV_str, decide_eq_false hm]
        have hjs : ru.w.length - 1 < ru.w.length := by omega
        have hb9 := Ar.ro.wp _ (List.getElem_mem hjs)
        refine ⟨_, rfl, _, rfl, bl, _, rfl, .inl (SqL.of hbu), rfl, flat_strs _, _, rfl, iteFe em ⟨_, rfl, r, _, _, rfl, hr1', r, ru, rfl, hAu.R, fun wa hwa => ⟨_, rfl, wa, _, _, .int (ru.w[ru.w.length - 1]), rfl, rfl, SqT.of hwa, ?_, _, rfl, _, rfl, od, _, rfl, DGet.at1f hgr lk, _, _, rfl, rfl, .inl ⟨by omega, by omega⟩,
          _, rfl, _, rfl, d, _, rfl, DPut.k (k := .inr p.1) upd_same (hsz _ lenk), _, _, _, _, rfl, fin _ ?_⟩⟩⟩
        · unfold atI ixN
          rw [List.length_map]
          show ((if (0 : Int) ≤ -1 then _ else if -(ru.w.length : Int) ≤ -1 then some ((-1 + (ru.w.length : Int)).toNat) else none).bind _) = _
          rw [if_neg (by omega), if_pos (by omega), Option.bind_some, show (-1 + (ru.w.length : Int)).toNat = ru.w.length - 1 by omega, List.getElem?_map, List.getElem?_eq_getElem hjs]
          rfl
        · unfold wtK
          rw [if_neg hm, List.getElem?_eq_getElem hjs]
          rfl
    · rintro σ H4 ⟨v6, v7, v8, v9, rfl, rfl⟩
      have eT2 : (old so st).take (DI (ks (old so st))).length = old so st := by rw [DI_length, List.length_map, List.take_length]
      rw [eT2]
      refine ⟨by rw [upd_ne ndod, upd_same], _, rfl, h d _ ((((s4.new hod0).new hd0)).new hod0) hd0 ?_⟩
      rw [upd_ne (Ne.symm ndod), upd_same]
      rfl
end
end U

set_option Elab.async false
set_option linter.all false
set_option maxRecDepth 100000
set_option maxHeartbeats 4000000
/-! The weights as plain functions: keys, bounds, the sum. -/
namespace U
open PySem L2
theorem allw_keys (ru : Ru) (so : So) (st : Stn) : (allw ru so st).map (·.1) = pls ru so st := by
  unfold allw pls
  split <;> simp [Function.comp_def]
theorem allw_nodup {ru : Ru} {so : So} {st : Stn} (h : (so.map (·.1)).Nodup) : ((allw ru so st).map (·.1)).Nodup := by
  rw [allw_keys]
  exact told_nodup h
theorem allw_len {ru : Ru} {so : So} {st : Stn} (h1 : st.length ≤ 3) (h2 : so.length ≤ 3) : (allw ru so st).length ≤ 6 := by
  have e : (allw ru so st).length = (told ru so st).length := by
    have := congrArg List.length (allw_keys ru so st)
    simpa [pls] using this
  rw [e]
  exact told_len h1 h2
theorem cnt_le (st : Stn) (k : Str) : cnt st k ≤ st.length := by
  unfold cnt
  exact Int.ofNat_le.mpr List.countP_le_length
theorem getD_in {l : List Int} {i : Nat} (h : ∀ x ∈ l, 0 ≤ x ∧ x ≤ 9) : 0 ≤ (l[i]?).getD 0 ∧ (l[i]?).getD 0 ≤ 9 := by
  cases e : l[i]? with
  | none => simp
  | some x => exact h x (List.mem_of_getElem? e)
theorem wtA_b {ru : Ru} (ok : RuOk ru) (bs : List Str) (st : Stn) (a : Int) : 0 ≤ wtA ru bs st a ∧ wtA ru bs st a ≤ 9 := by
  unfold wtA
  split
  · split
    · omega
    · split
      · exact getD_in ok.sp
      · exact getD_in ok.wp
  · omega
theorem old_mem {so : So} {st : Stn} {p : Str × Int} (h : p ∈ old so st) : 0 < p.2 ∧ ∃ n, (p.1, n) ∈ so ∧ p.2 = n - cnt st p.1 := by
  unfold old at h
  obtain ⟨h1, h2⟩ := List.mem_filter.mp h
  obtain ⟨q, hq, rfl⟩ := List.mem_map.mp h1
  exact ⟨by simpa using h2, q.2, hq, rfl⟩
theorem old_b {so : So} (ok : SoOk so) {st : Stn} {p : Str × Int} (h : p ∈ old so st) : 0 < p.2 ∧ p.2 ≤ 9 := by
  obtain ⟨h1, n, h2, h3⟩ := old_mem h
  have := ok.np _ h2
  have := cnt_nonneg st p.1
  have h4 : 0 ≤ n ∧ n ≤ 9 := ok.np _ h2
  omega
theorem wtK_b {ru : Ru} (ok : RuOk ru) (bs : List Str) {p : Str × Int} (h : 0 < p.2 ∧ p.2 ≤ 9) : 0 ≤ wtK ru bs p ∧ wtK ru bs p ≤ 81 := by
  unfold wtK
  split
  · omega
  · have := getD_in (i := ru.w.length - 1) ok.wp
    refine ⟨Int.mul_nonneg this.1 (by omega), ?_⟩
    have h1 : (ru.w[ru.w.length - 1]?).getD 0 * p.2 ≤ 9 * p.2 := Int.mul_le_mul_of_nonneg_right this.2 (by omega)
    omega
theorem told_b {ru : Ru} {so : So} {st : Stn} (rk : RuOk ru) (sk : SoOk so) {p : Key × Int} (h : p ∈ told ru so st) : 0 ≤ p.2 ∧ p.2 ≤ 81 := by
  unfold told at h
  rcases List.mem_append.mp h with h | h
  · obtain ⟨a, _, rfl⟩ := List.mem_map.mp h
    have := wtA_b rk (barred ru.n st) st a
    simp only
    omega
  · obtain ⟨q, hq, rfl⟩ := List.mem_map.mp h
    exact wtK_b rk _ (old_b sk hq)
theorem fbW_b {so : So} {st : Stn} (sk : SoOk so) (l : Option Key) (k : Key) : 0 ≤ fbW so st l k ∧ fbW so st l k ≤ 81 := by
  unfold fbW
  cases e : look (ks (old so st)) k with
  | none => rw [Option.getD_none]; split <;> omega
  | some n =>
    have := look_some e
    obtain ⟨p, hp, e2⟩ := List.mem_map.mp this
    cases e2
    have := old_b sk hp
    rw [Option.getD_some]
    omega
theorem allw_b {ru : Ru} {so : So} {st : Stn} (rk : RuOk ru) (sk : SoOk so) {p : Key × Int} (h : p ∈ allw ru so st) : 0 ≤ p.2 ∧ p.2 ≤ 81 := by
  unfold allw at h
  split at h
  · exact told_b rk sk h
  · obtain ⟨q, hq, rfl⟩ := List.mem_map.mp h
    exact fbW_b sk _ _
def wsum (l : List (Key × Int)) : Int := (l.map (·.2)).sum
theorem wsum_cons (p : Key × Int) (l : List (Key × Int)) : wsum (p :: l) = p.2 + wsum l := by simp [wsum]
theorem wsum_nonneg : ∀ {l : List (Key × Int)}, (∀ p ∈ l, 0 ≤ p.2) → 0 ≤ wsum l
  | [], _ => Int.le_refl _
  | p :: l, h => by
    rw [wsum_cons]
    have := h p (by simp)
    have := wsum_nonneg (l := l) fun q hq => h q (by simp [hq])
    omega
theorem wsum_ge : ∀ {l : List (Key × Int)} {p : Key × Int}, (∀ p ∈ l, 0 ≤ p.2) → p ∈ l → p.2 ≤ wsum l
  | q :: l, p, h, hp => by
    rw [wsum_cons]
    have h1 := h q (by simp)
    have h2 := wsum_nonneg (l := l) fun q hq => h q (by simp [hq])
    rcases List.mem_cons.mp hp with e | e
    · subst e; omega
    · have := wsum_ge (l := l) (fun q hq => h q (by simp [hq])) e
      omega
theorem wsum_le {c : Int} : ∀ {l : List (Key × Int)}, (∀ p ∈ l, p.2 ≤ c) → wsum l ≤ l.length * c
  | [], _ => by simp [wsum]
  | p :: l, h => by
    rw [wsum_cons, List.length_cons]
    have := h p (by simp)
    have := wsum_le (l := l) (c := c) fun q hq => h q (by simp [hq])
    have : ((l.length + 1 : Nat) : Int) * c = l.length * c + c := by
      rw [show ((l.length + 1 : Nat) : Int) = (l.length : Int) + 1 by omega, Int.add_mul, Int.one_mul]
    omega
theorem told_ne {ru : Ru} {so : So} {st : Stn} (sk : SoOk so) (ok : StOk ru so st) : told ru so st ≠ [] := by
  intro e
  unfold told at e
  rw [List.append_eq_nil_iff, List.map_eq_nil_iff, List.map_eq_nil_iff] at e
  obtain ⟨ea, eo⟩ := e
  -- a kind of which there is a song
  have : ∃ p ∈ so, p.2 ≠ 0 := by
    apply Classical.byContradiction
    intro hn
    apply sk.pos
    have : ∀ l : So, (∀ p ∈ l, p.2 = 0) → (l.map (·.2)).sum = 0 := by
      intro l
      induction l with
      | nil => intro _; rfl
      | cons p l ih =>
        intro h
        rw [List.map_cons, List.sum_cons, h p (by simp), ih fun q hq => h q (by simp [hq])]
        rfl
    refine this so fun p hp => ?_
    apply Classical.byContradiction
    intro hz
    exact hn ⟨p, hp, hz⟩
  obtain ⟨p, hp, hz⟩ := this
  have hn := sk.np p hp
  have hnot : ¬ (0 < p.2 - cnt st p.1) := fun z => by
    have : (p.1, p.2 - cnt st p.1) ∈ old so st := List.mem_filter.mpr ⟨List.mem_map.mpr ⟨p, hp, rfl⟩, by simpa using z⟩
    rw [eo] at this
    cases this
  have hc : 0 < st.countP (itKd p.1) := by
    unfold cnt at hnot
    omega
  obtain ⟨it, hit, e3⟩ := List.countP_pos_iff.mp hc
  cases it with
  | none => simp [itKd] at e3
  | some kb =>
    obtain ⟨j, hj, ej⟩ := List.getElem_of_mem hit
    have : ((0 + j : Nat) : Int) + 1 ∈ agesOf st := mem_agesFrom.mpr ⟨j, kb.1, kb.2, by rw [List.getElem?_eq_getElem hj, ej], rfl⟩
    rw [ea] at this
    cases this
theorem allw_pos {ru : Ru} {so : So} {st : Stn} (rk : RuOk ru) (sk : SoOk so) (ok : StOk ru so st) : ∃ p ∈ allw ru so st, 0 < p.2 := by
  unfold allw
  split
  · rename_i h
    unfold anyW at h
    obtain ⟨n, hn, hz⟩ := List.any_eq_true.mp h
    obtain ⟨p, hp, rfl⟩ := List.mem_map.mp hn
    refine ⟨p, hp, ?_⟩
    have := told_b rk sk hp
    simp at hz
    omega
  · by_cases ho : old so st = []
    · rw [if_pos ho]
      have hne : (told ru so st).map (·.1) ≠ [] := by simpa using told_ne sk ok
      have hl : lastK (told ru so st) = some (((told ru so st).map (·.1)).getLast hne) := List.getLast?_eq_some_getLast hne
      obtain ⟨p, hp, e⟩ := List.mem_map.mp (List.getLast_mem hne)
      refine ⟨_, List.mem_map.mpr ⟨p, hp, rfl⟩, ?_⟩
      unfold fbW
      rw [ho, hl, e]
      simp [look]
    · rw [if_neg ho]
      obtain ⟨q, r, e⟩ : ∃ q r, old so st = q :: r := List.exists_cons_of_ne_nil ho
      have hq : q ∈ old so st := by rw [e]; simp
      have : (Sum.inr q.1, wtK ru (barred ru.n st) q) ∈ told ru so st := by
        unfold told
        exact List.mem_append_right _ (List.mem_map.mpr ⟨q, hq, rfl⟩)
      refine ⟨_, List.mem_map.mpr ⟨_, this, rfl⟩, ?_⟩
      have nd := ks_nodup (old_keys_nodup st sk.nd)
      have := look_mem nd (List.mem_map.mpr ⟨q, hq, rfl⟩)
      unfold fbW
      rw [this]
      exact (old_mem hq).1
theorem allw_sum {ru : Ru} {so : So} {st : Stn} (rk : RuOk ru) (sk : SoOk so) (ok : StOk ru so st) : 0 < wsum (allw ru so st) ∧ wsum (allw ru so st) ≤ 486 := by
  have hb := fun p (h : p ∈ allw ru so st) => allw_b rk sk h
  refine ⟨?_, ?_⟩
  · obtain ⟨p, hp, h⟩ := allw_pos rk sk ok
    have := wsum_ge (fun p h => (hb p h).1) hp
    omega
  · have h1 := wsum_le (c := 81) fun p h => (hb p h).2
    have := allw_len (ru := ru) (so := so) (st := st) (by have := ok.len; have := rk.w4; omega) sk.l3
    omega
theorem look_pls {ru : Ru} {so : So} {st : Stn} {k : Key} (h : k ∈ pls ru so st) : ∃ n, look (allw ru so st) k = some n := by
  rw [← allw_keys] at h
  obtain ⟨p, hp, rfl⟩ := List.mem_map.mp h
  exact look_of hp
/-- a place of a standing -/
def PlOk (so : So) (st : Stn) : Key → Prop
  | .inl a => a ∈ agesOf st
  | .inr z => z ∈ (old so st).map (·.1)
theorem pls_ok {ru : Ru} {so : So} {st : Stn} {k : Key} : k ∈ pls ru so st ↔ PlOk so st k := by
  unfold pls
  rw [told_keys, List.mem_append]
  cases k with
  | inl a => simp [PlOk]
  | inr z => simp [PlOk]
end U

set_option Elab.async false
set_option linter.all false
set_option maxRecDepth 100000
set_option maxHeartbeats 4000000
/-! All weights, places, chances. -/
namespace U
open PySem PySem.Spec PyProof.Rows L2
theorem kV_inj {a b : Key} (h : kV a = kV b) : a = b := by
  cases a <;> cases b <;> simp [kV] at h <;> rw [h]
theorem scal_kk (a b : Key) : scal (kV a) (kV b) = true := by cases a <;> cases b <;> rfl
theorem scal_kn (a : Key) : scal (kV a) .non = true := by cases a <;> rfl
theorem DcI.step' {i : Nat} {Rl : Hp → Hp → Prop} {acc : Nat → List (Key × Int)} {H0 H H5 : Hp} {D : Addr} (I : DcI Rl acc H0 D i H) (rl : Rel Rl) (hD : H0 D = none) (hz : i < 1000) (k : Rl H H5) {y : Key} {z : Int} {v : V} (hv : v = .int z) (hy : y ∉ (acc i).map (·.1)) (e : acc (i + 1) = acc i ++ [(y, z)]) :
    ∃ kvs k', kV y = kV k' ∧ H5 D = some (.dK kvs) ∧ kvs.length < sizeLine ∧ DcI Rl acc H0 D (i + 1) (upd H5 D (.dK (putK kvs k' v))) := by
  subst hv
  exact I.step rl hD hz k hy e
theorem DI_vals (l : List (Key × Int)) : (DI l).map (·.2) = (l.map (·.2)).map V.int := by simp [DI]
theorem DI_kV (l : List (Key × Int)) : (DI l).map (fun kv => kV kv.1) = (l.map (·.1)).map kV := by simp [DI]
theorem inV_int (k : Int) (bs : List Int) : inV (.int k) (bs.map V.int) = decide (k ∈ bs) := by
  induction bs with
  | nil => simp [inV]
  | cons b r ih =>
    have e : inV (.int k) (List.map V.int (b :: r)) = (eqV (.int b) (.int k) || inV (.int k) (r.map V.int)) := rfl
    rw [e, ih]
    by_cases h : k = b
    · subst h
      simp [eqV]
    · have h' : ¬ b = k := fun z => h z.symm
      simp [eqV, h, h']
theorem flat_ints (bs : List Int) : (bs.map V.int).all flatV = true := by simp [flatV]
section
variable {P : Program} {w : World} {K : PySem.W.Frag} {mg : Str → Option Value} {base : Heap}
def pr_allw (K : PySem.W.Frag) : Pr := fun vs H Q => ∃ r o t ru so st, vs = [.ref r, .ref o, .ref t] ∧ Arg K H r o t ru so st ∧ ∀ d H', Same H H' → H d = none → H' d = some (.dK (DI (allw ru so st))) → Q (.ref d) H'
theorem sc_all_weights : FnScope ["rule", "songs", "standing", "found", "old", "last", "place"] ["rule", "songs", "standing"] (defScope s_all_weights) := ⟨rfl, rfl, rfl, by decide +kernel, rfl, by decide +kernel, by decide +kernel⟩
theorem ok_all_weights (T : T K mg) : Ok P w K mg base 5 (He.ga K "all_weights") (pr_allw K) := by
  refine Dn.ok T.all_weights sc_all_weights (fun _ _ _ _ _ _ us hl => match us, hl with | [_, _, _], _ => rfl) (fun vs H Q h => ?_) fun cdv A outer s H vs Q E hr h => ?_
  · obtain ⟨_, _, _, _, _, _, rfl, _⟩ := h
    rfl
  obtain ⟨r, o, t, ru, so, st, rfl, Ar, h⟩ := h
  have hl := Ar.len
  have l3 := Ar.sk.l3
  have nd := told_nodup (ru := ru) (st := st) Ar.sk.nd
  have tl := told_len (ru := ru) hl l3
  refine ⟨_, (pss_cons (ps_set (i := 3) sc_all_weights.nd rfl (by first | exact .inl rfl | exact .inr rfl) (pe_cal (ok_told_weights T) (hr.mono (by decide)) rfl T.told_weights (pa_cons (pv 0) (pa_cons (pv 1) (pa_cons (pv 2) pa_nil))))) (pss_cons (ps_if (pt_val (pe_callB (cr_anyI rfl) rfl T.z_any b_any (pa_cons (pe_listVals rfl (pv 3) rfl T.z_list b_list) pa_nil))) (pss_one (ps_ret (pv 3))) pss_nil) (pss_cons (ps_set (i := 4) sc_all_weights.nd rfl (by first | exact .inl rfl | exact .inr rfl) (pe_cal (ok_old_songs T) (hr.mono (by decide)) rfl T.old_songs (pa_cons (pv 1) (pa_cons (pv 2) pa_nil)))) (pss_cons (ps_set (i := 5) sc_all_weights.nd rfl (by first | exact .inl rfl | exact .inr rfl) (pe_ifExp (pt_cmpR (op_eqE (by exact hr.units0)) (pv 4) pe_dnewK (nomark _)) (pe_ix (ixL (K := K) rfl) (pe_callTy (call_listD rfl) rfl T.z_list b_list (pa_cons (pv 3) pa_nil)) (pe_un un_neg pe_int) (fun _ _ => rfl)) pe_non)) (pss_one (ps_ret (pe_lock (pe_dc (own := [("place", 6)]) (g := gName 6) (tt := tYes) rfl sc_all_weights.nd  (pi_keys (pv 3)) (blkOk_by (N := ["rule", "songs", "standing", "found", "old", "last", "place"]) (sc := defScope s_all_weights) (by decide +kernel)) (fun _ _ _ _ _ => pg_name (i := 6) sc_all_weights.nd rfl (by first | exact .inl rfl | exact .inr rfl)) (fun _ _ _ _ _ => pts_nil) (fun _ _ _ _ _ => (pv 6)) (fun _ _ _ _ _ => (pe_dget2 (hu_of hr) (pv 4) (pv 6) (pe_callTy call_int1 rfl T.z_int b_int (pa_cons (pe_cmpR op_eq (pv 6) (pv 5) (nomark _)) pa_nil)) ⟨rfl, rfl, rfl, rfl⟩)))))))))), ?_⟩
  refine ⟨_, rfl, _, rfl, _, rfl, r, o, t, ru, so, st, rfl, Ar, fun d H1 s1 hdn hd => ?_⟩
  refine ⟨_, rfl, d, _, rfl, .inl hd, fun p hp => ⟨p, (told ru so st).map (·.2), rfl, SqL.of (by rw [upd_same, DI_vals]), _, rfl, ?_⟩⟩
  have s2 := s1.up hp (o := .lst ((DI (told ru so st)).map (·.2)))
  have hd2 : (upd H1 p (.lst ((DI (told ru so st)).map (·.2)))) d = some (.dK (DI (told ru so st))) := (sms H1).up hp _ _ hd
  generalize hH2 : upd H1 p (.lst ((DI (told ru so st)).map (·.2))) = H2 at *
  cases hany : anyW (told ru so st) with
  | true =>
    refine iteTe hany ⟨_, rfl, h d H2 s2 hdn ?_⟩
    unfold allw
    rw [if_pos hany]
    exact hd2
  | false =>
  refine iteFe hany ?_
  have hd0 := hdn
  refine ⟨_, rfl, _, rfl, o, t, so, st, rfl, Ar.S.mono s2, Ar.sk, Ar.St.mono s2.tk, by omega, fun od H3 s3 hodn hod => ?_⟩
  have nod : od ≠ d := fun z => by rw [z, hd2] at hodn; cases hodn
  have hd3 := s3 _ _ hd2
  refine ⟨_, rfl, fun e he => ⟨od, e, _, rfl, rfl, (sms H3).up he _ _ hod, upd_same, _, rfl, ?_⟩⟩
  have s3q := (s2.trans s3).up he (o := .dK [])
  have hdq0 := (sms H3).up he (o := .dK []) _ _ hd3
  have hoq0 := (sms H3).up he (o := .dK []) _ _ hod
  by_cases ho : old so st = []
  · refine iteTe (by rw [ho]; rfl) ?_
    have hne := told_ne Ar.sk Ar.ok
    have hne2 : (told ru so st).map (·.1) ≠ [] := by simpa using hne
    obtain ⟨k0, hk0⟩ : ∃ k0, lastK (told ru so st) = some k0 := ⟨_, List.getLast?_eq_some_getLast hne2⟩
    refine ⟨_, rfl, d, _, rfl, .inl hdq0, fun q hq => ⟨_, rfl, q, _, _, kV k0, rfl, rfl, SqL.of upd_same, ?_, ?_⟩⟩
    · rw [DI_kV]
      obtain ⟨l, el⟩ : ∃ l, (told ru so st).map (·.1) = l ++ [k0] := List.getLast?_eq_some_iff.mp hk0
      rw [el, List.map_append]
      exact atI_last _ _
    have s4 := s3q.up hq (o := .lst ((DI (told ru so st)).map fun kv => kV kv.1))
    have s5q := (sms (upd H3 e (.dK []))).up hq (o := .lst ((DI (told ru so st)).map fun kv => kV kv.1))
    have hdq := hdq0
    have hoq := hoq0
    generalize hH4 : upd (upd H3 e (.dK [])) q (.lst ((DI (told ru so st)).map fun kv => kV kv.1)) = H4 at *

    have A4 := Ar.mono s4
    have hdg : H4 d = some (.dK (DI (told ru so st))) := s5q _ _ hdq
    have hog : H4 od = some (.dK (DI (ks (old so st)))) := s5q _ _ hoq
    refine ⟨d, _, hdg, trivial, fun ob => ⟨_, rfl, d, ob, rfl, .inl ⟨_, upd_same, fun D hD => ?_⟩⟩⟩
    obtain ⟨nDd, hD3⟩ := lock_free hD
    refine dc_go rel_same walk_keys hD (sms _) (fun i => (((told ru so st).map fun p => (p.1, fbW so st (some k0) p.1))).take i) rfl (fun H5 s5 => s5 _ _ upd_same) ?_ ?_
    · rintro i x H5 H' hi I ⟨rfl, k, v, e, rfl⟩
      obtain ⟨m, e1, rfl⟩ := DI_at e
      have hg : H' od = some (.dK (DI (ks (old so st)))) := I.rl _ _ (by rw [upd_ne nod]; exact hog)
      have e5 : ((told ru so st).map fun p => (p.1, fbW so st (some k0) p.1))[i]? = some (k, fbW so st (some k0) k) := by rw [List.getElem?_map, e1]; rfl
      refine ⟨rfl, _, rfl, _, rfl, od, rfl, .inl ⟨_, .inl hg⟩, _, rfl, _, rfl, _, rfl, scal_kk k k0, .inr ⟨_, rfl, _, DGet.di (k := k) hg, ?_⟩⟩
      rw [DI_length] at hi
      refine I.step' (y := k) (z := fbW so st (some k0) k) rel_same hD (by omega) (sms _) ?_ ?_ (take_snoc e5)
      · show ((look (ks (old so st)) k).map V.int).getD (V.int (if decide (kV k = kV k0) = true then 1 else 0)) = V.int (fbW so st (some k0) k)
        rw [getD_int]
        unfold fbW
        by_cases q : k = k0
        · subst q; simp
        · have q1 : ¬ kV k = kV k0 := fun z => q (kV_inj z)
          have q2 : ¬ k0 = k := fun z => q z.symm
          rw [decide_eq_false q1, if_neg (by simp), if_neg (by simpa using q2)]
      · have := take_keys (l := (told ru so st).map fun p => (p.1, fbW so st (some k0) p.1)) (p := (k, fbW so st (some k0) k)) ?_ e5
        · exact this
        · rw [List.map_map]
          exact nd
    intro H5 h5 s5
    refine ⟨s5 _ _ upd_same, h D _ (s4.trans (unlock hdg s5)) (s4.free hD3) ?_⟩
    rw [upd_ne nDd, h5]
    unfold allw
    rw [if_neg (by rw [hany]; simp), if_pos ho, hk0, DI_length, List.take_of_length_le (by simp)]

  · refine iteFe (by cases hh : old so st with
      | nil => exact absurd hh ho
      | cons _ _ => rfl) ?_
    have s4 := s3q
    have s5q := sms (upd H3 e (.dK []))
    have hdq := hdq0
    have hoq := hoq0
    generalize hH4 : upd H3 e (.dK []) = H4 at *

    have A4 := Ar.mono s4
    have hdg : H4 d = some (.dK (DI (told ru so st))) := s5q _ _ hdq
    have hog : H4 od = some (.dK (DI (ks (old so st)))) := s5q _ _ hoq
    refine ⟨d, _, hdg, trivial, fun ob => ⟨_, rfl, d, ob, rfl, .inl ⟨_, upd_same, fun D hD => ?_⟩⟩⟩
    obtain ⟨nDd, hD3⟩ := lock_free hD
    refine dc_go rel_same walk_keys hD (sms _) (fun i => (((told ru so st).map fun p => (p.1, fbW so st none p.1))).take i) rfl (fun H5 s5 => s5 _ _ upd_same) ?_ ?_
    · rintro i x H5 H' hi I ⟨rfl, k, v, e, rfl⟩
      obtain ⟨m, e1, rfl⟩ := DI_at e
      have hg : H' od = some (.dK (DI (ks (old so st)))) := I.rl _ _ (by rw [upd_ne nod]; exact hog)
      have e5 : ((told ru so st).map fun p => (p.1, fbW so st none p.1))[i]? = some (k, fbW so st none k) := by rw [List.getElem?_map, e1]; rfl
      refine ⟨rfl, _, rfl, _, rfl, od, rfl, .inl ⟨_, .inl hg⟩, _, rfl, _, rfl, _, rfl, scal_kn k, .inr ⟨_, rfl, _, DGet.di (k := k) hg, ?_⟩⟩
      rw [DI_length] at hi
      refine I.step' (y := k) (z := fbW so st none k) rel_same hD (by omega) (sms _) ?_ ?_ (take_snoc e5)
      · show ((look (ks (old so st)) k).map V.int).getD (V.int (if decide (kV k = V.non) = true then 1 else 0)) = V.int (fbW so st none k)
        rw [getD_int]
        unfold fbW
        cases k <;> simp [kV]
      · have := take_keys (l := (told ru so st).map fun p => (p.1, fbW so st none p.1)) (p := (k, fbW so st none k)) ?_ e5
        · exact this
        · rw [List.map_map]
          exact nd
    intro H5 h5 s5
    refine ⟨s5 _ _ upd_same, h D _ (s4.trans (unlock hdg s5)) (s4.free hD3) ?_⟩
    rw [upd_ne nDd, h5]
    unfold allw
    rw [if_neg (by rw [hany]; simp), if_neg ho, DI_length, List.take_of_length_le (by simp)]

def pr_places (K : PySem.W.Frag) : Pr := fun vs H Q => ∃ r o t ru so st, vs = [.ref r, .ref o, .ref t] ∧ Arg K H r o t ru so st ∧ ∀ l H', Same H H' → H l = none → H' l = some (.lst ((pls ru so st).map kV)) → Q (.ref l) H'
theorem sc_places : FnScope ["rule", "songs", "standing"] ["rule", "songs", "standing"] (defScope s_places) := ⟨rfl, rfl, rfl, by decide +kernel, rfl, by decide +kernel, by decide +kernel⟩
theorem ok_places (T : T K mg) : Ok P w K mg base 6 (He.ga K "places") (pr_places K) := by
  refine Dn.ok T.places sc_places (fun _ _ _ _ _ _ us hl => match us, hl with | [_, _, _], _ => rfl) (fun vs H Q h => ?_) fun cdv A outer s H vs Q E hr h => ?_
  · obtain ⟨_, _, _, _, _, _, rfl, _⟩ := h
    rfl
  obtain ⟨r, o, t, ru, so, st, rfl, Ar, h⟩ := h
  refine ⟨_, (pss_cons (ps_expr (pe_cal (ok_need_standing T) (hr.mono (by decide)) rfl T.need_standing (pa_cons (pv 0) (pa_cons (pv 1) (pa_cons (pv 2) pa_nil))))) (pss_one (ps_ret (pe_callTy (call_listD rfl) rfl T.z_list b_list (pa_cons (pe_cal (ok_told_weights T) (hr.mono (by decide)) rfl T.told_weights (pa_cons (pv 0) (pa_cons (pv 1) (pa_cons (pv 2) pa_nil)))) pa_nil))))), ?_⟩
  refine ⟨_, rfl, _, rfl, _, rfl, r, o, t, ru, so, st, rfl, Ar, fun H1 s1 => ?_⟩
  refine ⟨_, rfl, _, rfl, _, rfl, r, o, t, ru, so, st, rfl, Ar.mono s1, fun d H2 s2 hdn hd => ?_⟩
  exact ⟨d, _, rfl, .inl hd, fun q hq => h q _ ((s1.trans s2).up hq) ((s1.trans s2).free hq) (by rw [upd_same, DI_kV]; rfl)⟩
def pr_is_place (K : PySem.W.Frag) : Pr := fun vs H Q => ∃ o t so st k, vs = [.ref o, .ref t, kV k] ∧ SoAt K H o so ∧ SoOk so ∧ StAt H t st ∧ st.length ≤ 100 ∧ PlOk so st k ∧ ∀ H', Same H H' → Q (.bl true) H'
theorem sc_is_place : FnScope ["songs", "standing", "thing"] ["songs", "standing", "thing"] (defScope s_is_place) := ⟨rfl, rfl, rfl, by decide +kernel, rfl, by decide +kernel, by decide +kernel⟩
theorem ok_is_place (T : T K mg) : Ok P w K mg base 4 (He.ga K "is_place") (pr_is_place K) := by
  refine Dn.ok T.is_place sc_is_place (fun _ _ _ _ _ _ us hl => match us, hl with | [_, _, _], _ => rfl) (fun vs H Q h => ?_) fun cdv A outer s H vs Q E hr h => ?_
  · obtain ⟨_, _, _, _, _, rfl, _⟩ := h
    rfl
  obtain ⟨o, t, so, st, k, rfl, S, sk, St, hz, pk, h⟩ := h
  refine ⟨_, (pss_cons (ps_if (pt_val (pe_cal (ok_is_integer T) (hr.mono (by decide)) rfl T.is_integer (pa_cons (pv 2) pa_nil))) (pss_one (ps_ret (pe_cmpR (inQ (K := K) rfl) (pv 2) (pe_cal (ok_ages_in T) (hr.mono (by decide)) rfl T.ages_in (pa_cons (pv 1) pa_nil)) (by rfl)))) pss_nil) (pss_one (ps_ret (pe_and (pe_callB (isiK (K := K) rfl) rfl T.z_isinstance b_isinstance (pa_cons (pv 2) (pa_cons (pe_bltn (v := .ty "str") rfl T.z_str b_str rfl) pa_nil))) (pe_one (pe_cmp (pc_din (hu_of hr) (pv 2) (pe_cal (ok_old_songs T) (hr.mono (by decide)) rfl T.old_songs (pa_cons (pv 0) (pa_cons (pv 1) pa_nil)))) rfl)))))), ?_⟩
  cases k with
  | inl a =>
    refine ⟨_, rfl, .inl a, rfl, _, rfl, iteT ⟨_, rfl, _, rfl, t, st, rfl, St, hz, fun l H1 s1 hl hln => ⟨l, _, rfl, .inl (SqL.of hl), rfl, flat_ints _, ?_⟩⟩⟩
    show Q (.bl (inV (.int a) ((agesOf st).map V.int))) H1
    rw [inV_int, decide_eq_true (show a ∈ agesOf st from pk)]
    exact h H1 s1
  | inr z =>
    refine ⟨_, rfl, .inr z, rfl, _, rfl, iteF ⟨_, rfl, _, _, _, _, true, rfl, .ty "str", .base (.str z), kit_ty (by decide +kernel : kitB "str" "str" = some true), _, rfl, iteT ⟨_, rfl, _, rfl, _, rfl, o, t, so, st, rfl, S, sk, St, hz, fun d H1 s1 hdn hd => ?_⟩⟩⟩
    obtain ⟨n, en⟩ := ks_mem pk
    refine ⟨d, _, rfl, DGet.at1 (k := .inr z) hd en, h H1 s1⟩
def pr_need_place (K : PySem.W.Frag) : Pr := fun vs H Q => ∃ r o t ru so st k, vs = [.ref r, .ref o, .ref t, kV k] ∧ Arg K H r o t ru so st ∧ PlOk so st k ∧ ∀ H', Same H H' → Q .non H'
theorem sc_need_place : FnScope ["rule", "songs", "standing", "place"] ["rule", "songs", "standing", "place"] (defScope s_need_place) := ⟨rfl, rfl, rfl, by decide +kernel, rfl, by decide +kernel, by decide +kernel⟩
theorem ok_need_place (T : T K mg) : Ok P w K mg base 6 (He.ga K "need_place") (pr_need_place K) := by
  refine Dn.ok T.need_place sc_need_place (fun _ _ _ _ _ _ us hl => match us, hl with | [_, _, _, _], _ => rfl) (fun vs H Q h => ?_) fun cdv A outer s H vs Q E hr h => ?_
  · obtain ⟨_, _, _, _, _, _, _, rfl, _⟩ := h
    rfl
  obtain ⟨r, o, t, ru, so, st, k, rfl, Ar, pk, h⟩ := h
  have hl := Ar.len
  refine ⟨_, (pss_cons (ps_expr (pe_cal (ok_need_standing T) (hr.mono (by decide)) rfl T.need_standing (pa_cons (pv 0) (pa_cons (pv 1) (pa_cons (pv 2) pa_nil))))) (pss_one (ps_if (pt_not (pt_val (pe_cal (ok_is_place T) (hr.mono (by decide)) rfl T.is_place (pa_cons (pv 1) (pa_cons (pv 2) (pa_cons (pv 3) pa_nil)))))) (pss_one ps_never) pss_nil))), ?_⟩
  refine ⟨_, rfl, _, rfl, _, rfl, r, o, t, ru, so, st, rfl, Ar, fun H1 s1 => ?_⟩
  exact ⟨_, rfl, _, rfl, _, rfl, o, t, so, st, k, rfl, Ar.S.mono s1, Ar.sk, Ar.St.mono s1.tk, by omega, pk, fun H2 s2 => ⟨_, rfl, iteF (h H2 (s1.trans s2))⟩⟩
/-! ### fractions -/
def pr_fraction : Pr := fun vs H Q => ∃ a b : Nat, vs = [.int a, .int b] ∧ 0 < b ∧ b < 1073741824 ∧ ∀ p, H p = none → Q (.ref p) (upd H p (.tup [.int ((a / Nat.gcd a b : Nat) : Int), .int ((b / Nat.gcd a b : Nat) : Int)]))
def slotN (σ : L2.St) (i : Nat) : Nat := match σ[i]? with | some (some (.int n)) => n.toNat | _ => 0
theorem sc_fraction : FnScope ["top", "bottom", "one", "other"] ["top", "bottom"] (defScope s_fraction) := ⟨rfl, rfl, rfl, by decide +kernel, rfl, by decide +kernel, by decide +kernel⟩
theorem ok_fraction (T : T K mg) : Ok P w K mg base 1 (He.ga K "fraction") pr_fraction := by
  refine Dn.ok T.fraction sc_fraction (fun _ _ _ _ _ _ us hl => match us, hl with | [_, _], _ => rfl) (fun vs H Q h => ?_) fun cdv A outer s H vs Q E hr h => ?_
  · obtain ⟨_, _, rfl, _⟩ := h
    rfl
  obtain ⟨a, b, rfl, hb, hb2, h⟩ := h
  refine ⟨_, (pss_cons (ps_par (i := 2) (j := 3) rfl sc_fraction.nd rfl rfl (by decide) rfl rfl (pa_cons (pv 1) (pa_cons (pv 0) pa_nil)) (by rfl)) (pss_cons (ps_while PassesOwn.never (pt_cmpR op_ne (pv 3) pe_int (nomark _)) (pss_one (ps_par (i := 2) (j := 3) rfl sc_fraction.nd rfl rfl (by decide) rfl rfl (pa_cons (pv 3) (pa_cons (pe_op op_modN (pv 2) (pv 3)) pa_nil)) (by rfl)))) (pss_one (ps_ret (pe_tup (pa_cons (pe_op op_fdivN (pv 0) (pv 2)) (pa_cons (pe_op op_fdivN (pv 1) (pv 2)) pa_nil))))))), ?_⟩
  refine ⟨_, rfl, _, rfl, _, _, rfl, ?_⟩
  refine while_by (fun σ H' => H' = H ∧ ∃ x y : Nat, σ = [some (.int a), some (.int b), some (.int x), some (.int y)] ∧ Nat.gcd x y = Nat.gcd a b) (fun σ _ => slotN σ 3) ⟨rfl, b, a, rfl, Nat.gcd_comm b a⟩ ?_ (fun σ H Q Q' h ⟨v, hv, hs, k, hk, q⟩ => ⟨v, hv, hs, k, hk, h _ _ q⟩)
  rintro σ H' ⟨rfl, x, y, rfl, e⟩
  refine ⟨_, rfl, rfl, _, rfl, ?_⟩
  by_cases hy : y = 0
  · subst hy
    refine iteFe (by simp) ?_
    rw [Nat.gcd_zero_right] at e
    have hx : 0 < x := by rw [e]; exact Nat.gcd_pos_of_pos_right _ hb
    have hx2 : x ≤ b := by rw [e]; exact Nat.gcd_le_right _ hb
    refine ⟨_, rfl, _, rfl, _, _, rfl, rfl, ⟨by omega, by omega⟩, _, rfl, _, rfl, _, _, rfl, rfl, ⟨by omega, by omega⟩, by show 2 ≤ sizeLine; decide, fun p hp => ?_⟩
    have := h p hp
    rw [← e] at this
    have f1 : ((a : Int)).fdiv (x : Int) = ((a / x : Nat) : Int) := by rw [Int.fdiv_eq_ediv_of_nonneg _ (by omega)]; rfl
    have f2 : ((b : Int)).fdiv (x : Int) = ((b / x : Nat) : Int) := by rw [Int.fdiv_eq_ediv_of_nonneg _ (by omega)]; rfl
    show Q (.ref p) (upd H' p (.tup [.int ((a : Int).fdiv (x : Int)), .int ((b : Int).fdiv (x : Int))]))
    rw [f1, f2]
    exact this
  · refine iteTe (by simp; omega) ?_
    have f : ((x : Int)).fmod (y : Int) = ((x % y : Nat) : Int) := by rw [Int.fmod_eq_emod_of_nonneg _ (by omega)]; rfl
    refine ⟨_, rfl, _, rfl, _, rfl, _, _, rfl, rfl, by omega, _, _, rfl, ⟨rfl, y, x % y, ?_, ?_⟩, ?_⟩
    · show [some (V.int a), some (V.int b), some (V.int y), some (V.int ((x : Int).fmod (y : Int)))] = _
      rw [f]
    · rw [← e, Nat.gcd_comm x y, Nat.gcd_rec y x, Nat.gcd_comm]
    · show (((x : Int)).fmod (y : Int)).toNat < ((y : Int)).toNat
      rw [f]
      have := Nat.mod_lt x (show 0 < y by omega)
      omega
def pr_weight (K : PySem.W.Frag) : Pr := fun vs H Q => ∃ r o t ru so st k n, vs = [.ref r, .ref o, .ref t, kV k] ∧ Arg K H r o t ru so st ∧ look (allw ru so st) k = some n ∧ ∀ H', Same H H' → Q (.int n) H'
theorem pl_of_look {ru : Ru} {so : So} {st : Stn} {k : Key} {n : Int} (h : look (allw ru so st) k = some n) : PlOk so st k := by
  rw [← pls_ok (ru := ru), ← allw_keys]
  exact List.mem_map.mpr ⟨_, look_some h, rfl⟩
theorem sc_weight : FnScope ["rule", "songs", "standing", "place"] ["rule", "songs", "standing", "place"] (defScope s_weight) := ⟨rfl, rfl, rfl, by decide +kernel, rfl, by decide +kernel, by decide +kernel⟩
theorem ok_weight (T : T K mg) : Ok P w K mg base 7 (He.ga K "weight") (pr_weight K) := by
  refine Dn.ok T.weight sc_weight (fun _ _ _ _ _ _ us hl => match us, hl with | [_, _, _, _], _ => rfl) (fun vs H Q h => ?_) fun cdv A outer s H vs Q E hr h => ?_
  · obtain ⟨_, _, _, _, _, _, _, _, rfl, _⟩ := h
    rfl
  obtain ⟨r, o, t, ru, so, st, k, n, rfl, Ar, lk, h⟩ := h
  refine ⟨_, (pss_cons (ps_expr (pe_cal (ok_need_place T) (hr.mono (by decide)) rfl T.need_place (pa_cons (pv 0) (pa_cons (pv 1) (pa_cons (pv 2) (pa_cons (pv 3) pa_nil)))))) (pss_one (ps_ret (pe_dget (hu_of hr) (pe_cal (ok_all_weights T) (hr.mono (by decide)) rfl T.all_weights (pa_cons (pv 0) (pa_cons (pv 1) (pa_cons (pv 2) pa_nil)))) (pv 3) (fun _ _ => rfl))))), ?_⟩
  refine ⟨_, rfl, _, rfl, _, rfl, _, rfl, r, o, t, ru, so, st, k, rfl, Ar, pl_of_look lk, fun H1 s1 => ?_⟩
  refine ⟨_, rfl, _, rfl, _, rfl, r, o, t, ru, so, st, rfl, Ar.mono s1, fun d H2 s2 hdn hd => ?_⟩
  exact ⟨_, rfl, d, _, rfl, DGet.at1 hd lk, h H2 (s1.trans s2)⟩
/-- the chance, as the program writes it -/
def frac (a b : Int) : Int × Int := (((a.toNat / Nat.gcd a.toNat b.toNat : Nat) : Int), ((b.toNat / Nat.gcd a.toNat b.toNat : Nat) : Int))
def chn (l : List (Key × Int)) (n : Int) : Int × Int := frac n (wsum l)
def pr_chance (K : PySem.W.Frag) : Pr := fun vs H Q => ∃ r o t ru so st k n, vs = [.ref r, .ref o, .ref t, kV k] ∧ Arg K H r o t ru so st ∧ look (allw ru so st) k = some n ∧ ∀ p H', Same H H' → H' p = some (.tup [.int (chn (allw ru so st) n).1, .int (chn (allw ru so st) n).2]) → Q (.ref p) H'
theorem sc_chance : FnScope ["rule", "songs", "standing", "place", "found"] ["rule", "songs", "standing", "place"] (defScope s_chance) := ⟨rfl, rfl, rfl, by decide +kernel, rfl, by decide +kernel, by decide +kernel⟩
theorem ok_chance (T : T K mg) : Ok P w K mg base 7 (He.ga K "chance") (pr_chance K) := by
  refine Dn.ok T.chance sc_chance (fun _ _ _ _ _ _ us hl => match us, hl with | [_, _, _, _], _ => rfl) (fun vs H Q h => ?_) fun cdv A outer s H vs Q E hr h => ?_
  · obtain ⟨_, _, _, _, _, _, _, _, rfl, _⟩ := h
    rfl
  obtain ⟨r, o, t, ru, so, st, k, n, rfl, Ar, lk, h⟩ := h
  have hs := allw_sum Ar.ro Ar.sk Ar.ok
  have hn := allw_b Ar.ro Ar.sk (look_some lk)
  refine ⟨_, (pss_cons (ps_expr (pe_cal (ok_need_place T) (hr.mono (by decide)) rfl T.need_place (pa_cons (pv 0) (pa_cons (pv 1) (pa_cons (pv 2) (pa_cons (pv 3) pa_nil)))))) (pss_cons (ps_set (i := 4) sc_chance.nd rfl (by first | exact .inl rfl | exact .inr rfl) (pe_cal (ok_all_weights T) (hr.mono (by decide)) rfl T.all_weights (pa_cons (pv 0) (pa_cons (pv 1) (pa_cons (pv 2) pa_nil))))) (pss_one (ps_ret (pe_cal (ok_fraction T) (hr.mono (by decide)) rfl T.fraction (pa_cons (pe_dget (hu_of hr) (pv 4) (pv 3) (fun _ _ => rfl)) (pa_cons (pe_callB (cr_sum rfl) rfl T.z_sum b_sum (pa_cons (pe_listVals rfl (pv 4) rfl T.z_list b_list) pa_nil)) pa_nil))))))), ?_⟩
  refine ⟨_, rfl, _, rfl, _, rfl, _, rfl, r, o, t, ru, so, st, k, rfl, Ar, pl_of_look lk, fun H1 s1 => ?_⟩
  refine ⟨_, rfl, _, rfl, _, rfl, r, o, t, ru, so, st, rfl, Ar.mono s1, fun d H2 s2 hdn hd => ?_⟩
  refine ⟨_, rfl, _, rfl, d, _, rfl, DGet.at1 hd lk, _, rfl, d, _, rfl, .inl hd, fun p hp => ⟨p, (allw ru so st).map (·.2), rfl, SqL.of (by rw [upd_same, DI_vals]), n.toNat, (wsum (allw ru so st)).toNat, ?_, by omega, by omega, fun q hq => ?_⟩⟩
  · have e1 : ((n.toNat : Nat) : Int) = n := Int.toNat_of_nonneg hn.1
    have e2 : (((wsum (allw ru so st)).toNat : Nat) : Int) = wsum (allw ru so st) := Int.toNat_of_nonneg (by omega)
    rw [e1, e2]
    rfl
  · exact h q _ (((s1.trans s2).up hp).up hq) upd_same
def pr_can_draw (K : PySem.W.Frag) : Pr := fun vs H Q => ∃ r o t ru so st k n, vs = [.ref r, .ref o, .ref t, kV k] ∧ Arg K H r o t ru so st ∧ look (allw ru so st) k = some n ∧ ∀ H', Same H H' → Q (.bl (decide (0 < n))) H'
theorem sc_can_draw : FnScope ["rule", "songs", "standing", "place"] ["rule", "songs", "standing", "place"] (defScope s_can_draw) := ⟨rfl, rfl, rfl, by decide +kernel, rfl, by decide +kernel, by decide +kernel⟩
theorem ok_can_draw (T : T K mg) : Ok P w K mg base 8 (He.ga K "can_draw") (pr_can_draw K) := by
  refine Dn.ok T.can_draw sc_can_draw (fun _ _ _ _ _ _ us hl => match us, hl with | [_, _, _, _], _ => rfl) (fun vs H Q h => ?_) fun cdv A outer s H vs Q E hr h => ?_
  · obtain ⟨_, _, _, _, _, _, _, _, rfl, _⟩ := h
    rfl
  obtain ⟨r, o, t, ru, so, st, k, n, rfl, Ar, lk, h⟩ := h
  refine ⟨_, (pss_one (ps_ret (pe_cmpR op_gt (pe_cal (ok_weight T) (hr.mono (by decide)) rfl T.weight (pa_cons (pv 0) (pa_cons (pv 1) (pa_cons (pv 2) (pa_cons (pv 3) pa_nil))))) pe_int (nomark _)))), ?_⟩
  exact ⟨_, rfl, _, rfl, _, rfl, _, rfl, r, o, t, ru, so, st, k, n, rfl, Ar, lk, fun H1 s1 => ⟨_, _, rfl, rfl, h H1 s1⟩⟩
end
end U

set_option Elab.async false
set_option linter.all false
set_option maxRecDepth 100000
set_option maxHeartbeats 4000000
/-! Drawing keeps standings; courses. -/
namespace U
open PySem L2
theorem restFrom_len (pl : Key) : ∀ (i : Nat) (st : Stn), (restFrom pl i st).length = st.length
  | _, [] => rfl
  | i, it :: r => by rw [restFrom, List.length_cons, List.length_cons, restFrom_len pl (i + 1) r]
theorem drawn_len (st : Stn) (pl : Key) (b : Bool) : (drawn st pl b).length = st.length := by
  unfold drawn
  rw [List.length_take, List.length_cons, restFrom_len]
  omega
theorem cnt_cons (it : Item) (s : Stn) (k : Str) : cnt (it :: s) k = (if itKd k it = true then 1 else 0) + cnt s k := by
  unfold cnt
  rw [List.countP_cons]
  split <;> simp <;> omega
theorem cnt_take_le (s : Stn) (n : Nat) (k : Str) : cnt (s.take n) k ≤ cnt s k := by
  unfold cnt
  exact Int.ofNat_le.mpr (List.Sublist.countP_le (List.take_sublist _ _))
theorem restF_inr (z : Str) (i : Nat) (it : Item) : restF (.inr z) i it = it := by unfold restF; rw [if_neg (by simp)]
theorem restFrom_inr (z : Str) : ∀ (i : Nat) (st : Stn), restFrom (.inr z) i st = st
  | _, [] => rfl
  | i, it :: r => by rw [restFrom, restF_inr, restFrom_inr z (i + 1) r]
theorem restF_mem (pl : Key) : ∀ (i : Nat) (st : Stn) {k : Str} {b : Bool}, some (k, b) ∈ restFrom pl i st → some (k, b) ∈ st
  | _, [], _, _, h => h
  | i, it :: r, k, b, h => by
    rw [restFrom] at h
    rcases List.mem_cons.mp h with h | h
    · unfold restF at h
      split at h
      · cases h
      · rw [h]; simp
    · exact List.mem_cons_of_mem _ (restF_mem pl (i + 1) r h)
theorem restFrom_past (a : Int) : ∀ (i : Nat) (st : Stn), a ≤ i → restFrom (.inl a) i st = st
  | _, [], _ => rfl
  | i, it :: r, h => by
    rw [restFrom, restFrom_past a (i + 1) r (by omega)]
    unfold restF
    rw [if_neg (fun z => by have := Sum.inl.inj z; omega)]
/-- without the item at j -/
theorem restFrom_cnt (k : Str) : ∀ (i : Nat) (st : Stn) (j : Nat) (it : Item), st[j]? = some it → cnt (restFrom (.inl (((i + j : Nat) : Int) + 1)) i st) k + (if itKd k it = true then 1 else 0) = cnt st k
  | _, [], _, _, h => by simp at h
  | i, x :: r, 0, it, h => by
    simp at h
    subst h
    rw [restFrom, restFrom_past _ (i + 1) r (by omega), cnt_cons, cnt_cons]
    unfold restF
    rw [Nat.add_zero, if_pos rfl]
    have : itKd k none = false := by simp [itKd]
    rw [this]
    simp
    omega
  | i, x :: r, j + 1, it, h => by
    have ih := restFrom_cnt k (i + 1) r j it (by simpa using h)
    rw [restFrom, cnt_cons, cnt_cons]
    have e1 : restF (.inl (((i + (j + 1) : Nat) : Int) + 1)) i x = x := by
      unfold restF
      rw [if_neg (fun z => by have := Sum.inl.inj z; omega)]
    rw [e1, ← ih, show i + (j + 1) = i + 1 + j by omega]
    omega
theorem cnt_drawn_le {so : So} {st : Stn} {pl : Key} {b : Bool} (h : PlOk so st pl) (k : Str) : cnt (drawn st pl b) k ≤ cnt st k ∨ (pl = .inr k ∧ cnt (drawn st pl b) k ≤ cnt st k + 1) := by
  have h1 := cnt_take_le (some (kindAt st pl, b) :: restFrom pl 0 st) st.length k
  have e : cnt (drawn st pl b) k ≤ cnt (some (kindAt st pl, b) :: restFrom pl 0 st) k := h1
  rw [cnt_cons] at e
  cases pl with
  | inl a =>
    obtain ⟨j, k0, b0, hj, ea⟩ := mem_agesFrom.mp h
    have := restFrom_cnt k 0 st j _ hj
    rw [← ea] at this
    have ek : kindAt st (.inl a) = k0 := by
      unfold kindAt
      have : (a - 1).toNat = j := by omega
      simp only [this, hj]
    left
    rw [ek] at e
    have e2 : itKd k (some (k0, b)) = itKd k (some (k0, b0)) := rfl
    rw [e2] at e
    omega
  | inr z =>
    rw [restFrom_inr] at e
    by_cases hz : z = k
    · subst hz
      right
      refine ⟨rfl, ?_⟩
      split at e <;> omega
    · left
      have : itKd k (some (kindAt st (.inr z), b)) = false := by simp [itKd, kindAt, hz]
      rw [this] at e
      simpa using e
theorem num_mem {so : So} (nd : (so.map (·.1)).Nodup) {p : Str × Int} (h : p ∈ so) : num so p.1 = p.2 := by
  unfold num
  rw [look_mem (p := (Sum.inr p.1, p.2)) (ks_nodup nd) (List.mem_map.mpr ⟨p, h, rfl⟩)]
  rfl
theorem drawn_ok {ru : Ru} {so : So} {st : Stn} {pl : Key} (sk : SoOk so) (ok : StOk ru so st) (h : PlOk so st pl) (b : Bool) : StOk ru so (drawn st pl b) := by
  refine ⟨by rw [drawn_len]; exact ok.len, fun k b' hm => ?_, fun k hk => ?_⟩
  · have hm' := List.mem_of_mem_take (show some (k, b') ∈ (some (kindAt st pl, b) :: restFrom pl 0 st).take st.length from hm)
    rcases List.mem_cons.mp hm' with e | e
    · cases e
      cases pl with
      | inl a =>
        obtain ⟨j, k0, b0, hj, ea⟩ := mem_agesFrom.mp h
        have ek : kindAt st (.inl a) = k0 := by
          unfold kindAt
          have : (a - 1).toNat = j := by omega
          simp only [this, hj]
        rw [ek]
        exact ok.kin k0 b0 (List.mem_of_getElem? hj)
      | inr z =>
        obtain ⟨p, hp, rfl⟩ := List.mem_map.mp h
        obtain ⟨_, n, hn, _⟩ := old_mem hp
        exact List.mem_map.mpr ⟨_, hn, rfl⟩
    · exact ok.kin k b' (restF_mem pl 0 st e)
  · have few := ok.few k hk
    rcases cnt_drawn_le (b := b) h k with e | ⟨rfl, e⟩
    · omega
    · obtain ⟨p, hp, rfl⟩ := List.mem_map.mp h
      obtain ⟨h0, n, hn, h2⟩ := old_mem hp
      have := num_mem sk.nd hn
      simp only at this
      omega
theorem fst0_ok {ru : Ru} {so : So} (rk : RuOk ru) (sk : SoOk so) : StOk ru so (fst0 ru) := by
  have w1 := rk.w1
  refine ⟨by unfold fst0; rw [List.length_replicate]; omega, fun k b h => ?_, fun k hk => ?_⟩
  · have := List.eq_of_mem_replicate h
    cases this
  · have e : cnt (fst0 ru) k = 0 := by
      unfold cnt fst0
      rw [List.countP_replicate]
      simp [itKd]
    rw [e]
    obtain ⟨p, hp, rfl⟩ := List.mem_map.mp hk
    rw [num_mem sk.nd hp]
    exact (sk.np p hp).1
/-- a course -/
def run (st : Stn) (cs : List (Key × Bool)) : Stn := cs.foldl (fun st s => drawn st s.1 s.2) st
def Can (ru : Ru) (so : So) (st : Stn) (k : Key) : Prop := ∃ n, look (allw ru so st) k = some n ∧ 0 < n
def good (ru : Ru) (so : So) : Stn → List (Key × Bool) → Prop
  | _, [] => True
  | st, s :: r => Can ru so st s.1 ∧ good ru so (drawn st s.1 s.2) r
theorem run_snoc (st : Stn) (cs : List (Key × Bool)) (s : Key × Bool) : run st (cs ++ [s]) = drawn (run st cs) s.1 s.2 := by simp [run]
theorem good_at {ru : Ru} {so : So} : ∀ {cs : List (Key × Bool)} {st : Stn} {i : Nat} {s : Key × Bool}, good ru so st cs → cs[i]? = some s → Can ru so (run st (cs.take i)) s.1
  | s0 :: r, st, 0, s, g, h => by
    simp at h
    subst h
    exact g.1
  | s0 :: r, st, i + 1, s, g, h => by
    have := good_at (i := i) g.2 (by simpa using h)
    simpa [run] using this
theorem good_snoc {ru : Ru} {so : So} {s : Key × Bool} : ∀ {cs : List (Key × Bool)} {st : Stn}, good ru so st cs → Can ru so (run st cs) s.1 → good ru so st (cs ++ [s])
  | [], _, _, h => ⟨h, trivial⟩
  | s0 :: r, st, g, h => ⟨g.1, good_snoc g.2 (by simpa [run] using h)⟩
theorem good_take {ru : Ru} {so : So} : ∀ {cs : List (Key × Bool)} {st : Stn} (n : Nat), good ru so st cs → good ru so st (cs.take n)
  | _, _, 0, _ => trivial
  | [], _, _ + 1, _ => trivial
  | s0 :: r, st, n + 1, g => ⟨g.1, good_take n g.2⟩
theorem Can.pl {ru : Ru} {so : So} {st : Stn} {k : Key} (h : Can ru so st k) : PlOk so st k := by
  obtain ⟨n, h, _⟩ := h
  rw [← pls_ok (ru := ru), ← allw_keys]
  exact List.mem_map.mpr ⟨_, look_some h, rfl⟩
theorem run_ok {ru : Ru} {so : So} (sk : SoOk so) : ∀ {cs : List (Key × Bool)} {st : Stn}, StOk ru so st → good ru so st cs → StOk ru so (run st cs)
  | [], _, ok, _ => ok
  | s :: r, st, ok, g => show StOk ru so (run (drawn st s.1 s.2) r) from run_ok sk (drawn_ok sk ok g.1.pl s.2) g.2
theorem steps_mem {ru : Ru} {so : So} {st : Stn} (nd : (so.map (·.1)).Nodup) {s : Key × Bool} : s ∈ steps ru so st ↔ Can ru so st s.1 := by
  unfold steps
  rw [List.mem_flatMap]
  constructor
  · rintro ⟨p, hp, hs⟩
    unfold stF at hs
    split at hs
    · rename_i h0
      have e : s.1 = p.1 := by
        simp at hs
        rcases hs with rfl | rfl <;> rfl
      exact ⟨p.2, by rw [e]; exact look_mem (allw_nodup nd) hp, h0⟩
    · cases hs
  · rintro ⟨n, h, h0⟩
    refine ⟨_, look_some h, ?_⟩
    unfold stF
    rw [if_pos h0]
    obtain ⟨k, b⟩ := s
    cases b <;> simp
end U

set_option Elab.async false
set_option linter.all false
set_option maxRecDepth 100000
set_option maxHeartbeats 4000000
/-! Drawing, steps, courses. -/
namespace U
open PySem PySem.Spec PyProof.Rows L2
def StepAt (H : Hp) (v : V) (s : Key × Bool) : Prop := ∃ a, v = .ref a ∧ H a = some (.tup [kV s.1, .bl s.2])
theorem StepAt.mono {H H' : Hp} (k : Tk H H') {v : V} {s : Key × Bool} (h : StepAt H v s) : StepAt H' v s := let ⟨a, e, h⟩ := h; ⟨a, e, k _ _ h⟩
theorem restFrom_app (pl : Key) : ∀ (i : Nat) (a b : Stn), restFrom pl i (a ++ b) = restFrom pl i a ++ restFrom pl (i + a.length) b
  | i, [], b => by simp [restFrom]
  | i, x :: a, b => by
    rw [List.cons_append, restFrom, restFrom, restFrom_app pl (i + 1) a b, List.cons_append, List.length_cons, show i + 1 + a.length = i + (a.length + 1) by omega]
theorem rest_snoc (pl : Key) {st : Stn} {i : Nat} {it : Item} (h : st[i]? = some it) : restFrom pl 0 (st.take (i + 1)) = restFrom pl 0 (st.take i) ++ [restF pl i it] := by
  have hl : (st.take i).length = i := by
    have := (List.getElem?_eq_some_iff.mp h).1
    simp; omega
  rw [take_snoc h, restFrom_app, hl, Nat.zero_add]
  rfl
theorem cutV_to {xs : List V} {n : Nat} : cutV xs none (some (n : Int)) = xs.take n := by
  unfold cutV
  rw [sIx_hi (by omega), Int.toNat_natCast]
  show (xs.drop 0).take (min n xs.length - 0) = _
  rw [List.drop_zero, Nat.sub_zero]
  by_cases hh : n ≤ xs.length
  · rw [Nat.min_eq_left hh]
  · rw [Nat.min_eq_right (by omega), List.take_length, List.take_of_length_le (by omega)]
section
variable {P : Program} {w : World} {K : PySem.W.Frag} {mg : Str → Option Value} {base : Heap}
def pr_drawn (K : PySem.W.Frag) : Pr := fun vs H Q => ∃ t st so k b, vs = [.ref t, kV k, .bl b] ∧ StAt H t st ∧ st.length ≤ 100 ∧ PlOk so st k ∧ ∀ t' H', Same H H' → StAt H' t' (drawn st k b) → Q (.ref t') H'
theorem sc_drawn : FnScope ["standing", "place", "was_skipped", "kind", "rest", "at", "item"] ["standing", "place", "was_skipped"] (defScope s_drawn) := ⟨rfl, rfl, rfl, by decide +kernel, rfl, by decide +kernel, by decide +kernel⟩
theorem ok_drawn (T : T K mg) : Ok P w K mg base 2 (He.ga K "drawn") (pr_drawn K) := by
  refine Dn.ok T.drawn sc_drawn (fun _ _ _ _ _ _ us hl => match us, hl with | [_, _, _], _ => rfl) (fun vs H Q h => ?_) fun cdv A outer s H vs Q E hr h => ?_
  · obtain ⟨_, _, _, _, _, rfl, _⟩ := h
    rfl
  obtain ⟨t, st, so, k, b, rfl, St, hz, pk, h⟩ := h
  obtain ⟨xs, hx, px⟩ := id St
  have el : xs.length = st.length := Paired.length px
  have hz2 : ∀ n : Nat, n ≤ 200 → n ≤ sizeLine := fun n hn => by rw [sizeLine_eq]; omega
  refine ⟨_, (pss_cons (ps_set (i := 3) sc_drawn.nd rfl (by first | exact .inl rfl | exact .inr rfl) (pe_ifExp (pt_val (pe_cal (ok_is_integer T) (hr.mono (by decide)) rfl T.is_integer (pa_cons (pv 1) pa_nil))) (pe_ix (ixT (K := K) rfl) (pe_ix (ixT (K := K) rfl) (pv 0) (pe_op op_sub (pv 1) pe_int) (fun _ _ => rfl)) pe_int (fun _ _ => rfl)) (pv 1))) (pss_cons (ps_setLc (i := 4) (own := [("at", 5), ("item", 6)]) (g := gTup K 2 (gCons (gName 5) (gCons (gName 6) gNil))) (tt := tYes) rfl sc_drawn.nd rfl rfl (sw_true rfl rfl rfl (by decide +kernel)) (pi_enumT rfl T.z_enumerate (pa_cons (pv 0) pa_nil)) (blkOk_by (N := ["standing", "place", "was_skipped", "kind", "rest", "at", "item"]) (sc := defScope s_drawn) (by decide +kernel)) (fun _ _ _ _ _ => pg_tup rfl (pgs_cons (pg_name (i := 5) sc_drawn.nd rfl (by first | exact .inl rfl | exact .inr rfl)) (pgs_cons (pg_name (i := 6) sc_drawn.nd rfl (by first | exact .inl rfl | exact .inr rfl)) pgs_nil))) (fun _ _ _ _ _ => pts_nil) (fun _ _ _ _ _ => (pe_ifExp (pt_cmpR op_eq (pe_op op_add (pv 5) pe_int) (pv 1) (nomark _)) (pe_tup pa_nil) (pv 6)))) (pss_one (ps_ret (pe_slice (slT (K := K) rfl) (pe_tup (pa_cons (pe_tup (pa_cons (pv 3) (pa_cons (pv 2) pa_nil))) (StX.pa_star (pv 4) pa_nil))) po_none (po_some (pe_callB (lenK (K := K) rfl) rfl T.z_len b_len (pa_cons (pv 0) pa_nil)))))))), ?_⟩
  cases k with
  | inl a =>
    obtain ⟨j, k0, b0, hj, ea⟩ := mem_agesFrom.mp pk
    rw [Nat.zero_add] at ea
    have hjl := (List.getElem?_eq_some_iff.mp hj).1
    have hxj : j < xs.length := by omega
    obtain ⟨it, hit, pit⟩ := paired_at px (List.getElem?_eq_getElem hxj)
    rw [hj] at hit
    cases hit
    obtain ⟨ia, eia, hia⟩ := pit
    have exj : xs[j]? = some (.ref ia) := by rw [List.getElem?_eq_getElem hxj, eia]
    have ej : a - 1 = ((j : Nat) : Int) := by omega
    have ek : kindAt st (.inl a) = k0 := by
      unfold kindAt
      have : (a - 1).toNat = j := by omega
      simp only [this, hj]
    refine ⟨_, rfl, .inl a, rfl, _, rfl, iteT ⟨_, rfl, _, rfl, _, _, rfl, rfl, t, xs, _, _, rfl, rfl, SqT.of hx, atI_get exj ej, ia, _, _, _, rfl, rfl, SqT.of hia, rfl, ?_⟩⟩
    rw [← ek]
    refine ⟨_, rfl, t, xs, rfl, SqT.of hx, fun D hD => ?_⟩
    refine lc_go rel_same walk_enumT hD (sms _) (fun i => restFrom (.inl a) 0 (st.take i)) (fun H v it => ItAt H v it) rfl (fun H1 s1 => SqT.of (s1 _ _ hx)) ?_ ?_
    · rintro i x H1 H' hi I ⟨q, x1, x2, rfl, hq, rfl, e1, e2⟩
      cases e1
      obtain ⟨it, hi2, hit⟩ := paired_at px e2
      have s1 := (sms H1).up hq (o := .tup [.int (i : Nat), x2])
      have hit1 : ItAt _ x2 it := hit.mono (I.rl.trans s1).tk
      refine ⟨q, _, rfl, SqT.of upd_same, rfl, _, _, rfl, _, _, rfl, rfl, rfl, ?_⟩
      refine ⟨_, rfl, _, _, rfl, rfl, _, rfl, rfl, _, rfl, ?_⟩
      by_cases q2 : ((i : Nat) : Int) + 1 = a
      · refine iteTe (by simpa [kV] using q2) ⟨by show 0 ≤ sizeLine; decide, fun p hp => I.step rel_same hD tkItAt (by omega) (s1.up hp) (rest_snoc (.inl a) hi2) ?_⟩
        unfold restF
        rw [if_pos (by rw [q2])]
        exact ⟨p, rfl, upd_same⟩
      · refine iteFe (by simpa [kV] using q2) ⟨_, rfl, I.step rel_same hD tkItAt (by omega) s1 (rest_snoc (.inl a) hi2) ?_⟩
        unfold restF
        rw [if_neg (fun z => q2 (Sum.inl.inj z))]
        exact hit1
    · intro us H1 h1 s1 p1
      have p1' : Paired (ItAt H1) us (restFrom (.inl a) 0 st) := by simpa [el] using p1
      have lu : us.length = st.length := by rw [Paired.length p1', restFrom_len]
      refine ⟨_, rfl, _, rfl, by show 2 ≤ sizeLine; decide, fun p hp => ⟨_, rfl, D, us, rfl, .inr (SqL.of ((sms H1).up hp _ _ h1)), hz2 _ (by show (us ++ []).length + 1 ≤ 200; simp; omega), fun q hq => ⟨_, rfl, _, st.length, rfl, .inr ⟨xs, SqT.of (((s1.up hp).up hq) _ _ hx), el.symm⟩, _, rfl, ?_⟩⟩⟩
      refine slT_of upd_same fun t' H' s' h' => h t' H' (((s1.up hp).up hq).trans s') ⟨_, h', ?_⟩
      rw [cutV_to]
      refine paired_take st.length (.cons ⟨p, rfl, s' _ _ ((sms (upd H1 p (.tup [.str (kindAt st (.inl a)), .bl b]))).up hq _ _ upd_same)⟩ ?_)
      rw [List.append_nil]
      exact Paired.mapP p1' fun _ _ z => z.mono ((((sms H1).up hp).up hq).trans s').tk
  | inr z =>
    refine ⟨_, rfl, .inr z, rfl, _, rfl, iteF ⟨_, rfl, ?_⟩⟩
    refine ⟨_, rfl, t, xs, rfl, SqT.of hx, fun D hD => ?_⟩
    refine lc_go rel_same walk_enumT hD (sms _) (fun i => restFrom (.inr z) 0 (st.take i)) (fun H v it => ItAt H v it) rfl (fun H1 s1 => SqT.of (s1 _ _ hx)) ?_ ?_
    · rintro i x H1 H' hi I ⟨q, x1, x2, rfl, hq, rfl, e1, e2⟩
      cases e1
      obtain ⟨it, hi2, hit⟩ := paired_at px e2
      have s1 := (sms H1).up hq (o := .tup [.int (i : Nat), x2])
      have hit1 : ItAt _ x2 it := hit.mono (I.rl.trans s1).tk
      refine ⟨q, _, rfl, SqT.of upd_same, rfl, _, _, rfl, _, _, rfl, rfl, rfl, ?_⟩
      refine ⟨_, rfl, _, _, rfl, rfl, _, rfl, rfl, _, rfl, ?_⟩
      refine iteFe (by simp [kV]) ⟨_, rfl, I.step rel_same hD tkItAt (by omega) s1 (rest_snoc (.inr z) hi2) ?_⟩
      rw [restF_inr]
      exact hit1
    · intro us H1 h1 s1 p1
      have p1' : Paired (ItAt H1) us (restFrom (.inr z) 0 st) := by simpa [el] using p1
      have lu : us.length = st.length := by rw [Paired.length p1', restFrom_len]
      refine ⟨_, rfl, _, rfl, by show 2 ≤ sizeLine; decide, fun p hp => ⟨_, rfl, D, us, rfl, .inr (SqL.of ((sms H1).up hp _ _ h1)), hz2 _ (by show (us ++ []).length + 1 ≤ 200; simp; omega), fun q hq => ⟨_, rfl, _, st.length, rfl, .inr ⟨xs, SqT.of (((s1.up hp).up hq) _ _ hx), el.symm⟩, _, rfl, ?_⟩⟩⟩
      refine slT_of upd_same fun t' H' s' h' => h t' H' (((s1.up hp).up hq).trans s') ⟨_, h', ?_⟩
      rw [cutV_to]
      refine paired_take st.length (.cons ⟨p, rfl, s' _ _ ((sms (upd H1 p (.tup [.str z, .bl b]))).up hq _ _ upd_same)⟩ ?_)
      rw [List.append_nil]
      exact Paired.mapP p1' fun _ _ z => z.mono ((((sms H1).up hp).up hq).trans s').tk
def pr_is_step (K : PySem.W.Frag) : Pr := fun vs H Q => ∃ o t so st v s, vs = [.ref o, .ref t, v] ∧ SoAt K H o so ∧ SoOk so ∧ StAt H t st ∧ st.length ≤ 100 ∧ StepAt H v s ∧ PlOk so st s.1 ∧ ∀ H', Same H H' → Q (.bl true) H'
theorem sc_is_step : FnScope ["songs", "standing", "thing"] ["songs", "standing", "thing"] (defScope s_is_step) := ⟨rfl, rfl, rfl, by decide +kernel, rfl, by decide +kernel, by decide +kernel⟩
theorem ok_is_step (T : T K mg) : Ok P w K mg base 5 (He.ga K "is_step") (pr_is_step K) := by
  refine Dn.ok T.is_step sc_is_step (fun _ _ _ _ _ _ us hl => match us, hl with | [_, _, _], _ => rfl) (fun vs H Q h => ?_) fun cdv A outer s H vs Q E hr h => ?_
  · obtain ⟨_, _, _, _, _, _, rfl, _⟩ := h
    rfl
  obtain ⟨o, t, so, st, v, ⟨k, b⟩, rfl, S, sk, St, hz, ⟨a, rfl, ha⟩, pk, h⟩ := h
  refine ⟨_, (pss_cons (ps_if (PW.pt (pw_or (pt_not (pt_val (pe_callB (isiK (K := K) rfl) rfl T.z_isinstance b_isinstance (pa_cons (pv 2) (pa_cons (pe_bltn (v := .ty "tuple") rfl T.z_tuple b_tuple rfl) pa_nil))))) (pw_or1 (pt_cmpR op_ne (pe_callB (lenK (K := K) rfl) rfl T.z_len b_len (pa_cons (pv 2) pa_nil)) pe_int (nomark _))))) (pss_one (ps_ret pe_bl)) pss_nil) (pss_one (ps_ret (pe_and (pe_cal (ok_is_place T) (hr.mono (by decide)) rfl T.is_place (pa_cons (pv 0) (pa_cons (pv 1) (pa_cons (pe_ix (ixT (K := K) rfl) (pv 2) pe_int (fun _ _ => rfl)) pa_nil)))) (pe_one (pe_callB (isiK (K := K) rfl) rfl T.z_isinstance b_isinstance (pa_cons (pe_ix (ixT (K := K) rfl) (pv 2) pe_int (fun _ _ => rfl)) (pa_cons (pe_bltn (v := .ty "bool") rfl T.z_bool b_bool rfl) pa_nil)))))))), ?_⟩
  refine ⟨_, rfl, _, _, _, _, true, rfl, .ty "tuple", .base (.tup ha), kit_ty (by decide +kernel : kitB "tuple" "tuple" = some true), _, rfl, iteF ⟨_, rfl, _, 2, rfl, .inr ⟨_, SqT.of ha, rfl⟩, rfl, _, rfl, iteFe rfl ?_⟩⟩
  refine ⟨_, rfl, _, rfl, _, rfl, _, _, _, _, rfl, rfl, SqT.of ha, rfl, o, t, so, st, k, rfl, S, sk, St, hz, pk, fun H1 s1 => ⟨_, rfl, iteT ?_⟩⟩
  exact ⟨_, rfl, _, _, _, _, rfl, rfl, SqT.of (s1 _ _ ha), rfl, _, _, _, _, true, rfl, .ty "bool", .base (.bl b), kit_ty (by decide +kernel : kitB "bool" "bool" = some true), h H1 s1⟩
def pr_behind (K : PySem.W.Frag) : Pr := fun vs H Q => ∃ r o t ru so st v s, vs = [.ref r, .ref o, .ref t, v] ∧ Arg K H r o t ru so st ∧ StepAt H v s ∧ PlOk so st s.1 ∧ ∀ t' H', Same H H' → StAt H' t' (drawn st s.1 s.2) → Q (.ref t') H'
theorem sc_behind : FnScope ["rule", "songs", "standing", "step"] ["rule", "songs", "standing", "step"] (defScope s_behind) := ⟨rfl, rfl, rfl, by decide +kernel, rfl, by decide +kernel, by decide +kernel⟩
theorem ok_behind (T : T K mg) : Ok P w K mg base 6 (He.ga K "behind") (pr_behind K) := by
  refine Dn.ok T.behind sc_behind (fun _ _ _ _ _ _ us hl => match us, hl with | [_, _, _, _], _ => rfl) (fun vs H Q h => ?_) fun cdv A outer s H vs Q E hr h => ?_
  · obtain ⟨_, _, _, _, _, _, _, _, rfl, _⟩ := h
    rfl
  obtain ⟨r, o, t, ru, so, st, v, ⟨k, b⟩, rfl, Ar, hv, pk, h⟩ := h
  have hl := Ar.len
  refine ⟨_, (pss_cons (ps_expr (pe_cal (ok_need_standing T) (hr.mono (by decide)) rfl T.need_standing (pa_cons (pv 0) (pa_cons (pv 1) (pa_cons (pv 2) pa_nil))))) (pss_cons (ps_if (pt_not (pt_val (pe_cal (ok_is_step T) (hr.mono (by decide)) rfl T.is_step (pa_cons (pv 1) (pa_cons (pv 2) (pa_cons (pv 3) pa_nil)))))) (pss_one ps_never) pss_nil) (pss_one (ps_ret (pe_cal (ok_drawn T) (hr.mono (by decide)) rfl T.drawn (pa_cons (pv 2) (pa_cons (pe_ix (ixT (K := K) rfl) (pv 3) pe_int (fun _ _ => rfl)) (pa_cons (pe_ix (ixT (K := K) rfl) (pv 3) pe_int (fun _ _ => rfl)) pa_nil)))))))), ?_⟩
  refine ⟨_, rfl, _, rfl, _, rfl, r, o, t, ru, so, st, rfl, Ar, fun H1 s1 => ?_⟩
  refine ⟨_, rfl, _, rfl, _, rfl, o, t, so, st, v, (k, b), rfl, Ar.S.mono s1, Ar.sk, Ar.St.mono s1.tk, by omega, hv.mono s1.tk, pk, fun H2 s2 => ⟨_, rfl, iteF ?_⟩⟩
  have s12 := s1.trans s2
  obtain ⟨a, rfl, ha⟩ := hv
  refine ⟨_, rfl, _, rfl, _, _, _, _, rfl, rfl, SqT.of (s12 _ _ ha), rfl, _, rfl, _, _, _, _, rfl, rfl, SqT.of (s12 _ _ ha), rfl, t, st, so, k, b, rfl, Ar.St.mono s12.tk, by omega, pk, fun t' H' s' h' => h t' H' (s12.trans s') h'⟩
def pr_steps_from (K : PySem.W.Frag) : Pr := fun vs H Q => ∃ r o t ru so st, vs = [.ref r, .ref o, .ref t] ∧ Arg K H r o t ru so st ∧ ∀ l us H', Same H H' → H l = none → H' l = some (.lst us) → Paired (StepAt H') us (steps ru so st) → Q (.ref l) H'
theorem sc_steps_from : FnScope ["rule", "songs", "standing", "weights", "found", "place"] ["rule", "songs", "standing"] (defScope s_steps_from) := ⟨rfl, rfl, rfl, by decide +kernel, rfl, by decide +kernel, by decide +kernel⟩
theorem ok_steps_from (T : T K mg) : Ok P w K mg base 6 (He.ga K "steps_from") (pr_steps_from K) := by
  refine Dn.ok T.steps_from sc_steps_from (fun _ _ _ _ _ _ us hl => match us, hl with | [_, _, _], _ => rfl) (fun vs H Q h => ?_) fun cdv A outer s H vs Q E hr h => ?_
  · obtain ⟨_, _, _, _, _, _, rfl, _⟩ := h
    rfl
  obtain ⟨r, o, t, ru, so, st, rfl, Ar, h⟩ := h
  have hl := Ar.len
  have al := allw_len (ru := ru) hl Ar.sk.l3
  have nd := allw_nodup (ru := ru) (st := st) Ar.sk.nd
  refine ⟨_, (pss_cons (ps_par (i := 3) (j := 4) rfl sc_steps_from.nd rfl rfl (by decide) rfl rfl (pa_cons (pe_cal (ok_all_weights T) (hr.mono (by decide)) rfl T.all_weights (pa_cons (pv 0) (pa_cons (pv 1) (pa_cons (pv 2) pa_nil)))) (pa_cons (pe_lst pa_nil) pa_nil)) (by rfl)) (pss_cons (ps_lock (ps_for PassesOwn.never rfl (pi_keys (pv 3)) (pg_name (i := 5) sc_steps_from.nd rfl (by first | exact .inl rfl | exact .inr rfl)) (pss_one (ps_if (pt_cmpR op_gt (pe_dget (hu_of hr) (pv 3) (pv 5) (fun _ _ => rfl)) pe_int (nomark _)) (pss_one (ps_set (i := 4) sc_steps_from.nd rfl (by first | exact .inl rfl | exact .inr rfl) (pe_op op_cat (pv 4) (pe_lst (pa_cons (pe_tup (pa_cons (pv 5) (pa_cons pe_bl pa_nil))) (pa_cons (pe_tup (pa_cons (pv 5) (pa_cons pe_bl pa_nil))) pa_nil)))))) pss_nil)))) (pss_one (ps_ret (pv 4))))), ?_⟩
  refine ⟨_, rfl, _, rfl, _, rfl, r, o, t, ru, so, st, rfl, Ar, fun d H1 s1 hdn hd => ⟨Nat.zero_le _, fun f hf => ⟨_, _, rfl, ?_⟩⟩⟩
  have s2 := s1.up hf (o := .lst [])
  have hd2 : (upd H1 f (.lst [])) d = some (.dK (DI (allw ru so st))) := (sms H1).up hf _ _ hd
  have hfd : f ≠ d := fun z => by rw [z, hd] at hf; cases hf
  refine ⟨d, _, hd2, trivial, fun ob => ⟨_, rfl, d, ob, rfl, .inl ⟨_, upd_same, ?_⟩⟩⟩
  refine for_it walk_keys (fun i σ H' => ∃ f' us v, σ = [some (.ref r), some (.ref o), some (.ref t), some (.ref d), some (.ref f'), v] ∧ Same (upd (upd H1 f (.lst [])) d (.frz ob (.dK (DI (allw ru so st))))) H' ∧ H' f' = some (.lst us) ∧ H f' = none ∧ us.length ≤ 2 * i ∧ Paired (StepAt H') us (((allw ru so st).take i).flatMap stF))
    ⟨f, [], none, rfl, sms _, by rw [upd_ne hfd, upd_same], s1.free hf, Nat.le_refl _, .nil⟩ (fun i σ H' _ ⟨_, _, _, _, s3, _⟩ => s3 _ _ upd_same) ?_ ?_
  · rintro i x σ H2 H' hi ⟨f', us, v, rfl, s3, hf', hfn, hlu, pu⟩ ⟨rfl, k, v', e, rfl⟩
    obtain ⟨m, e1, rfl⟩ := DI_at e
    rw [DI_length] at hi
    have lk := look_mem nd (List.mem_of_getElem? e1)
    have e3 : ((allw ru so st).take (i + 1)).flatMap stF = ((allw ru so st).take i).flatMap stF ++ (if 0 < m then [(k, false), (k, true)] else []) := by
      rw [take_snoc e1, List.flatMap_append]
      simp [stF]
    refine ⟨_, rfl, _, rfl, d, _, rfl, DGet.at1f (s3 _ _ upd_same) lk, _, _, rfl, rfl, _, rfl, ?_⟩
    by_cases q : 0 < m
    · refine iteTe (by simpa using q) ⟨_, rfl, _, rfl, by show 2 ≤ sizeLine; decide, fun p1 hp1 => ⟨_, rfl, by show 2 ≤ sizeLine; decide, fun p2 hp2 => ⟨by show 2 ≤ sizeLine; decide, fun e he => ⟨f', e, us, _, rfl, rfl, ?_, upd_same, ?_, fun n hn => ?_⟩⟩⟩⟩
      · exact ((((sms H').up hp1).up hp2).up he) _ _ hf'
      · show us.length + 2 ≤ sizeLine
        rw [sizeLine_eq]; omega
      have s5 := ((((sms H').up hp1 (o := .tup [kV k, .bl false])).up hp2 (o := .tup [kV k, .bl true])).up he (o := .lst [.ref p1, .ref p2])).up hn (o := .lst (us ++ [.ref p1, .ref p2]))
      refine ⟨n, us ++ [.ref p1, .ref p2], _, rfl, s3.trans s5, upd_same, ?_, by rw [List.length_append]; simp; omega, ?_⟩
      · have s6 := (s3.trans ((((sms H').up hp1 (o := .tup [kV k, .bl false])).up hp2 (o := .tup [kV k, .bl true])).up he (o := .lst [.ref p1, .ref p2])))
        have h1 := s6.free hn
        exact s2.free (lock_free h1).2
      · rw [e3, if_pos q]
        have k1 : StepAt (upd (upd (upd (upd H' p1 (.tup [kV k, .bl false])) p2 (.tup [kV k, .bl true])) e (.lst [.ref p1, .ref p2])) n (.lst (us ++ [.ref p1, .ref p2]))) (.ref p1) (k, false) :=
          ⟨p1, rfl, (((sms (upd H' p1 (.tup [kV k, .bl false]))).up hp2).up he).up hn _ _ upd_same⟩
        have k2 : StepAt (upd (upd (upd (upd H' p1 (.tup [kV k, .bl false])) p2 (.tup [kV k, .bl true])) e (.lst [.ref p1, .ref p2])) n (.lst (us ++ [.ref p1, .ref p2]))) (.ref p2) (k, true) :=
          ⟨p2, rfl, ((sms (upd (upd H' p1 (.tup [kV k, .bl false])) p2 (.tup [kV k, .bl true]))).up he).up hn _ _ upd_same⟩
        have h8 := paired_snoc k2 (paired_snoc k1 (Paired.mapP pu fun _ _ z => StepAt.mono s5.tk z))
        rw [List.append_assoc, List.append_assoc] at h8
        exact h8
    · refine iteFe (by simpa using q) ⟨f', us, _, rfl, s3, hf', hfn, by omega, ?_⟩
      rw [e3, if_neg q, List.append_nil]
      exact pu
  · rintro σ H2 ⟨f', us, v, rfl, s3, hf', hfn, hlu, pu⟩
    have nfd : f' ≠ d := fun z => by rw [z, s3 _ _ upd_same] at hf'; cases hf'
    refine ⟨s3 _ _ upd_same, _, rfl, h f' us _ (s2.trans (unlock hd2 s3)) hfn (by rw [upd_ne nfd]; exact hf') ?_⟩
    rw [DI_length, List.take_length] at pu
    exact Paired.mapP pu fun _ _ z => z.mono (Tk.at (s3 _ _ upd_same) (fun xs z => by cases z))
end
end U

set_option Elab.async false
set_option linter.all false
set_option maxRecDepth 100000
set_option maxHeartbeats 4000000
/-! How many standings there are. -/
namespace U
open PySem L2
def itemsOf (ns : List Str) : List Item := none :: ns.flatMap fun k => [some (k, false), some (k, true)]
def allStn (its : List Item) : Nat → List Stn
  | 0 => [[]]
  | n + 1 => its.flatMap fun it => (allStn its n).map fun st => it :: st
theorem mem_allStn (its : List Item) : ∀ (st : Stn), (∀ it ∈ st, it ∈ its) → st ∈ allStn its st.length
  | [], _ => by simp [allStn]
  | it :: r, h => by
    rw [List.length_cons, allStn, List.mem_flatMap]
    exact ⟨it, h it (by simp), List.mem_map.mpr ⟨r, mem_allStn its r fun x hx => h x (by simp [hx]), rfl⟩⟩
theorem flatMap_len {α β : Type} (f : α → List β) (c : Nat) (hf : ∀ x, (f x).length = c) : ∀ l : List α, (l.flatMap f).length = l.length * c
  | [] => by simp
  | x :: l => by rw [List.flatMap_cons, List.length_append, hf, flatMap_len f c hf l, List.length_cons, Nat.add_mul, Nat.one_mul, Nat.add_comm]
theorem itemsOf_len (ns : List Str) : (itemsOf ns).length = 2 * ns.length + 1 := by
  unfold itemsOf
  rw [List.length_cons, flatMap_len _ 2 (fun _ => rfl)]
  omega
theorem allStn_len (its : List Item) : ∀ n, (allStn its n).length = its.length ^ n
  | 0 => rfl
  | n + 1 => by rw [allStn, flatMap_len _ (its.length ^ n) (fun x => by rw [List.length_map, allStn_len its n]), Nat.pow_succ, Nat.mul_comm]
theorem nodup_sub {α : Type} [DecidableEq α] : ∀ {l u : List α}, l.Nodup → (∀ x ∈ l, x ∈ u) → l.length ≤ u.length
  | [], _, _, _ => Nat.zero_le _
  | x :: l, u, nd, h => by
    rw [List.nodup_cons] at nd
    have hx := h x (by simp)
    have ih := nodup_sub (l := l) (u := u.erase x) nd.2 fun y hy => (List.mem_erase_of_ne (fun (z : y = x) => nd.1 (by rw [← z]; exact hy))).mpr (h y (by simp [hy]))
    rw [List.length_erase_of_mem hx] at ih
    have : 0 < u.length := List.length_pos_of_mem hx
    rw [List.length_cons]
    omega
theorem stns_few {ru : Ru} {so : So} {l : List Stn} (rk : RuOk ru) (sk : SoOk so) (nd : l.Nodup) (ok : ∀ st ∈ l, StOk ru so st) : l.length ≤ 343 := by
  have h1 : ∀ st ∈ l, st ∈ allStn (itemsOf (so.map (·.1))) (ru.w.length - 1) := fun st hst => by
    have k := ok st hst
    have e : ru.w.length - 1 = st.length := by have := k.len; omega
    rw [e]
    refine mem_allStn _ st fun it hit => ?_
    cases it with
    | none => simp [itemsOf]
    | some kb =>
      obtain ⟨k', b⟩ := kb
      have := k.kin k' b hit
      unfold itemsOf
      refine List.mem_cons_of_mem _ (List.mem_flatMap.mpr ⟨k', this, ?_⟩)
      cases b <;> simp
  have h2 := nodup_sub nd h1
  rw [allStn_len, itemsOf_len, List.length_map] at h2
  have l3 := sk.l3
  have w4 := rk.w4
  have h3 : (2 * so.length + 1) ^ (ru.w.length - 1) ≤ 7 ^ (ru.w.length - 1) := Nat.pow_le_pow_left (by omega) _
  have h4 : 7 ^ (ru.w.length - 1) ≤ 7 ^ 3 := Nat.pow_le_pow_right (by omega) (by omega)
  omega
structure Reach (ru : Ru) (so : So) (l : List Stn) : Prop where
  ok : ∀ st ∈ l, StOk ru so st
  first : fst0 ru ∈ l
  more : ∀ st ∈ l, ∀ k b, Can ru so st k → drawn st k b ∈ l
theorem Reach.perm {ru : Ru} {so : So} {l l' : List Stn} (R : Reach ru so l) (p : l'.Perm l) : Reach ru so l' :=
  ⟨fun st h => R.ok st (p.mem_iff.mp h), p.mem_iff.mpr R.first, fun st h k b c => p.mem_iff.mpr (R.more st (p.mem_iff.mp h) k b c)⟩
theorem Reach.run {ru : Ru} {so : So} {l : List Stn} (R : Reach ru so l) : ∀ {cs : List (Key × Bool)} {st : Stn}, st ∈ l → good ru so st cs → run st cs ∈ l
  | [], _, h, _ => h
  | s :: r, st, h, g => show U.run (drawn st s.1 s.2) r ∈ l from R.run (R.more st h s.1 s.2 g.1) g.2
end U

set_option Elab.async false
set_option linter.all false
set_option maxRecDepth 100000
set_option maxHeartbeats 4000000
/-! Courses and what is led to. -/
namespace U
open PySem PySem.Spec PyProof.Rows L2
section
variable {P : Program} {w : World} {K : PySem.W.Frag} {mg : Str → Option Value} {base : Heap}
/-- what stands at the arguments rule, songs -/
structure Arg2 (K : PySem.W.Frag) (H : Hp) (r o : Addr) (ru : Ru) (so : So) : Prop where
  R : RuAt K H r ru
  S : SoAt K H o so
  ro : RuOk ru
  sk : SoOk so
theorem Arg2.mono {H H' : Hp} {r o : Addr} {ru : Ru} {so : So} (k : Same H H') (A : Arg2 K H r o ru so) : Arg2 K H' r o ru so := ⟨A.R.mono k, A.S.mono k, A.ro, A.sk⟩
theorem Arg2.arg {H : Hp} {r o t : Addr} {ru : Ru} {so : So} {st : Stn} (A : Arg2 K H r o ru so) (h : StAt H t st) (ok : StOk ru so st) : Arg K H r o t ru so st := ⟨A.R, A.S, h, A.ro, A.sk, ok⟩
theorem stok_len {ru : Ru} {so : So} {st : Stn} (rk : RuOk ru) (ok : StOk ru so st) : st.length ≤ 3 := by have := ok.len; have := rk.w4; omega
def pr_wrong_step (K : PySem.W.Frag) : Pr := fun vs H Q => ∃ r o c ru so us cs, vs = [.ref r, .ref o, .ref c] ∧ Arg2 K H r o ru so ∧ H c = some (.lst us) ∧ Paired (StepAt H) us cs ∧ cs.length ≤ 100 ∧ good ru so (fst0 ru) cs ∧ ∀ H', Same H H' → Q .non H'
theorem sc_wrong_step : FnScope ["rule", "songs", "course", "standing", "at", "step"] ["rule", "songs", "course"] (defScope s_wrong_step) := ⟨rfl, rfl, rfl, by decide +kernel, rfl, by decide +kernel, by decide +kernel⟩
theorem ok_wrong_step (T : T K mg) : Ok P w K mg base 7 (He.ga K "wrong_step") (pr_wrong_step K) := by
  refine Dn.ok T.wrong_step sc_wrong_step (fun _ _ _ _ _ _ us hl => match us, hl with | [_, _, _], _ => rfl) (fun vs H Q h => ?_) fun cdv A outer s H vs Q E hr h => ?_
  · obtain ⟨_, _, _, _, _, _, _, rfl, _⟩ := h
    rfl
  obtain ⟨r, o, c, ru, so, us, cs, rfl, Ar, hc, pc, hz, gd, h⟩ := h
  have el : us.length = cs.length := Paired.length pc
  refine ⟨_, (pss_cons (ps_set (i := 3) sc_wrong_step.nd rfl (by first | exact .inl rfl | exact .inr rfl) (pe_cal (ok_first_standing T) (hr.mono (by decide)) rfl T.first_standing (pa_cons (pv 0) pa_nil))) (pss_cons (ps_for PassesOwn.never rfl (pi_enum rfl T.z_enumerate (pa_cons (pv 2) pa_nil)) (pg_tup rfl (pgs_cons (pg_name (i := 4) sc_wrong_step.nd rfl (by first | exact .inl rfl | exact .inr rfl)) (pgs_cons (pg_name (i := 5) sc_wrong_step.nd rfl (by first | exact .inl rfl | exact .inr rfl)) pgs_nil))) (pss_cons (ps_if (PW.pt (pw_or (pt_not (pt_val (pe_cal (ok_is_step T) (hr.mono (by decide)) rfl T.is_step (pa_cons (pv 1) (pa_cons (pv 3) (pa_cons (pv 5) pa_nil)))))) (pw_or1 (pt_cmpR op_eq (pe_dget (hu_of hr) (pe_cal (ok_all_weights T) (hr.mono (by decide)) rfl T.all_weights (pa_cons (pv 0) (pa_cons (pv 1) (pa_cons (pv 3) pa_nil)))) (pe_ix (ixT (K := K) rfl) (pv 5) pe_int (fun _ _ => rfl)) (fun _ _ => rfl)) pe_int (nomark _))))) (pss_one (ps_ret (pv 4))) pss_nil) (pss_one (ps_set (i := 3) sc_wrong_step.nd rfl (by first | exact .inl rfl | exact .inr rfl) (pe_cal (ok_drawn T) (hr.mono (by decide)) rfl T.drawn (pa_cons (pv 3) (pa_cons (pe_ix (ixT (K := K) rfl) (pv 5) pe_int (fun _ _ => rfl)) (pa_cons (pe_ix (ixT (K := K) rfl) (pv 5) pe_int (fun _ _ => rfl)) pa_nil)))))))) (pss_one (ps_ret pe_non)))), ?_⟩
  refine ⟨_, rfl, r, ru, rfl, Ar.R, Ar.ro, fun t0 H1 s1 ht0 => ?_⟩
  refine ⟨_, rfl, c, us, rfl, SqL.of (s1 _ _ hc), ?_⟩
  refine for_it walk_enum (fun i σ H' => ∃ v4 v5 t', σ = [some (.ref r), some (.ref o), some (.ref c), some (.ref t'), v4, v5] ∧ Same H H' ∧ StAt H' t' (run (fst0 ru) (cs.take i))) ⟨none, none, t0, rfl, s1, ht0⟩ (fun i σ H' _ ⟨_, _, _, _, s2, _⟩ => SqL.of (s2 _ _ hc)) ?_ ?_
  · rintro i x σ H2 H' hi ⟨v4, v5, t', rfl, s2, ht'⟩ ⟨q, x1, x2, rfl, hq, rfl, e1, e2⟩
    cases e1
    obtain ⟨⟨k, b⟩, hi2, hst⟩ := paired_at pc e2
    have s3 := (sms H2).up hq (o := .tup [.int (i : Nat), x2])
    have ok := run_ok Ar.sk (fst0_ok Ar.ro Ar.sk) (good_take i gd)
    have can := good_at gd hi2
    have hl := stok_len Ar.ro ok
    have hst1 := hst.mono (s2.trans s3).tk
    refine ⟨q, _, rfl, SqT.of upd_same, rfl, _, _, rfl, _, _, rfl, rfl, ?_⟩
    refine ⟨_, rfl, _, rfl, _, rfl, o, t', so, _, x2, (k, b), rfl, Ar.S.mono (s2.trans s3), Ar.sk, ht'.mono s3.tk, by omega, hst1, can.pl, fun H4 s4 => ⟨_, rfl, iteF ?_⟩⟩
    have s24 := (s2.trans s3).trans s4
    obtain ⟨n, lk, n0⟩ := can
    obtain ⟨a, rfl, ha⟩ := hst1
    refine ⟨_, rfl, _, rfl, _, rfl, r, o, t', ru, so, _, rfl, (Ar.mono s24).arg (ht'.mono (s3.trans s4).tk) ok, fun d H5 s5 hdn hd => ?_⟩
    have s25 := s24.trans s5
    refine ⟨_, rfl, a, _, _, _, rfl, rfl, SqT.of ((s4.trans s5) _ _ ha), rfl, d, _, rfl, DGet.at1 (k := k) hd lk, rfl, _, rfl, iteFe (decide_eq_false (fun z => by cases z; omega)) ?_⟩
    refine ⟨_, rfl, _, rfl, a, _, _, _, rfl, rfl, SqT.of ((s4.trans s5) _ _ ha), rfl, _, rfl, a, _, _, _, rfl, rfl, SqT.of ((s4.trans s5) _ _ ha), rfl, t', _, so, k, b, rfl, ht'.mono ((s3.trans s4).trans s5).tk, by omega, Can.pl ⟨n, lk, n0⟩, fun t2 H6 s6 h6 => ?_⟩
    refine ⟨_, _, t2, rfl, s25.trans s6, ?_⟩
    rw [take_snoc hi2, run_snoc]
    exact h6
  · rintro σ H2 ⟨v4, v5, t', rfl, s2, ht'⟩
    exact h H2 s2
def pr_is_course (K : PySem.W.Frag) : Pr := fun vs H Q => ∃ r o c ru so us cs, vs = [.ref r, .ref o, .ref c] ∧ Arg2 K H r o ru so ∧ H c = some (.lst us) ∧ Paired (StepAt H) us cs ∧ cs.length ≤ 100 ∧ good ru so (fst0 ru) cs ∧ ∀ H', Same H H' → Q (.bl true) H'
theorem sc_is_course : FnScope ["rule", "songs", "thing"] ["rule", "songs", "thing"] (defScope s_is_course) := ⟨rfl, rfl, rfl, by decide +kernel, rfl, by decide +kernel, by decide +kernel⟩
theorem ok_is_course (T : T K mg) : Ok P w K mg base 8 (He.ga K "is_course") (pr_is_course K) := by
  refine Dn.ok T.is_course sc_is_course (fun _ _ _ _ _ _ us hl => match us, hl with | [_, _, _], _ => rfl) (fun vs H Q h => ?_) fun cdv A outer s H vs Q E hr h => ?_
  · obtain ⟨_, _, _, _, _, _, _, rfl, _⟩ := h
    rfl
  obtain ⟨r, o, c, ru, so, us, cs, rfl, Ar, hc, pc, hz, gd, h⟩ := h
  refine ⟨_, (pss_one (ps_ret (pe_and (pe_cal (ok_is_list T) (hr.mono (by decide)) rfl T.is_list (pa_cons (pv 2) pa_nil)) (pe_one (pe_cmpR op_isN (pe_cal (ok_wrong_step T) (hr.mono (by decide)) rfl T.wrong_step (pa_cons (pv 0) (pa_cons (pv 1) (pa_cons (pv 2) pa_nil)))) pe_non (nomark _)))))), ?_⟩
  exact ⟨_, rfl, c, us, rfl, hc, fun H1 s1 => ⟨_, rfl, iteT ⟨_, rfl, _, rfl, _, rfl, r, o, c, ru, so, us, cs, rfl, Ar.mono s1, s1 _ _ hc, Paired.mapP pc fun _ _ z => z.mono s1.tk, hz, gd, fun H2 s2 => ⟨rfl, h H2 (s1.trans s2)⟩⟩⟩⟩
def pr_led_to (K : PySem.W.Frag) : Pr := fun vs H Q => ∃ r o c ru so us cs, vs = [.ref r, .ref o, .ref c] ∧ Arg2 K H r o ru so ∧ H c = some (.lst us) ∧ Paired (StepAt H) us cs ∧ cs.length ≤ 100 ∧ good ru so (fst0 ru) cs ∧ ∀ t H', Same H H' → StAt H' t (run (fst0 ru) cs) → Q (.ref t) H'
theorem sc_led_to : FnScope ["rule", "songs", "course", "wrong", "standing", "place", "was_skipped"] ["rule", "songs", "course"] (defScope s_led_to) := ⟨rfl, rfl, rfl, by decide +kernel, rfl, by decide +kernel, by decide +kernel⟩
theorem ok_led_to (T : T K mg) : Ok P w K mg base 8 (He.ga K "led_to") (pr_led_to K) := by
  refine Dn.ok T.led_to sc_led_to (fun _ _ _ _ _ _ us hl => match us, hl with | [_, _, _], _ => rfl) (fun vs H Q h => ?_) fun cdv A outer s H vs Q E hr h => ?_
  · obtain ⟨_, _, _, _, _, _, _, rfl, _⟩ := h
    rfl
  obtain ⟨r, o, c, ru, so, us, cs, rfl, Ar, hc, pc, hz, gd, h⟩ := h
  have el : us.length = cs.length := Paired.length pc
  refine ⟨_, (pss_cons (ps_if (pt_not (pt_val (pe_cal (ok_is_list T) (hr.mono (by decide)) rfl T.is_list (pa_cons (pv 2) pa_nil)))) (pss_one ps_never) pss_nil) (pss_cons (ps_set (i := 3) sc_led_to.nd rfl (by first | exact .inl rfl | exact .inr rfl) (pe_cal (ok_wrong_step T) (hr.mono (by decide)) rfl T.wrong_step (pa_cons (pv 0) (pa_cons (pv 1) (pa_cons (pv 2) pa_nil))))) (pss_cons (ps_if (pt_cmpR L2.op_notN (pv 3) pe_non (nomark _)) (pss_one ps_never) pss_nil) (pss_cons (ps_set (i := 4) sc_led_to.nd rfl (by first | exact .inl rfl | exact .inr rfl) (pe_cal (ok_first_standing T) (hr.mono (by decide)) rfl T.first_standing (pa_cons (pv 0) pa_nil))) (pss_cons (ps_for PassesOwn.never rfl (piL (K := K) rfl (pv 2)) (pg_tup rfl (pgs_cons (pg_name (i := 5) sc_led_to.nd rfl (by first | exact .inl rfl | exact .inr rfl)) (pgs_cons (pg_name (i := 6) sc_led_to.nd rfl (by first | exact .inl rfl | exact .inr rfl)) pgs_nil))) (pss_one (ps_set (i := 4) sc_led_to.nd rfl (by first | exact .inl rfl | exact .inr rfl) (pe_cal (ok_drawn T) (hr.mono (by decide)) rfl T.drawn (pa_cons (pv 4) (pa_cons (pv 5) (pa_cons (pv 6) pa_nil))))))) (pss_one (ps_ret (pv 4)))))))), ?_⟩
  refine ⟨_, rfl, c, us, rfl, hc, fun H1 s1 => ⟨_, rfl, iteF ?_⟩⟩
  refine ⟨_, rfl, _, rfl, _, rfl, r, o, c, ru, so, us, cs, rfl, Ar.mono s1, s1 _ _ hc, Paired.mapP pc fun _ _ z => z.mono s1.tk, hz, gd, fun H2 s2 => ?_⟩
  have s12 := s1.trans s2
  refine ⟨_, rfl, rfl, _, rfl, iteFe rfl ?_⟩
  refine ⟨_, rfl, r, ru, rfl, Ar.R.mono s12, Ar.ro, fun t0 H3 s3 ht0 => ?_⟩
  have s13 := s12.trans s3
  refine ⟨_, rfl, c, rfl, ⟨_, SqL.of (s13 _ _ hc)⟩, ?_⟩
  refine for_it (walk_list (xs := us)) (fun i σ H' => ∃ v5 v6 t', σ = [some (.ref r), some (.ref o), some (.ref c), some .non, some (.ref t'), v5, v6] ∧ Same H H' ∧ StAt H' t' (run (fst0 ru) (cs.take i))) ⟨none, none, t0, rfl, s13, ht0⟩ (fun i σ H' _ ⟨_, _, _, _, s2, _⟩ => SqL.of (s2 _ _ hc)) ?_ ?_
  · rintro i x σ H4 H' hi ⟨v5, v6, t', rfl, s4, ht'⟩ ⟨rfl, e2⟩
    obtain ⟨⟨k, b⟩, hi2, a, rfl, ha⟩ := paired_at pc e2
    have ok := run_ok Ar.sk (fst0_ok Ar.ro Ar.sk) (good_take i gd)
    have can := good_at gd hi2
    have hl := stok_len Ar.ro ok
    refine ⟨a, _, rfl, SqT.of (s4 _ _ ha), rfl, _, _, rfl, _, _, rfl, rfl, ?_⟩
    refine ⟨_, rfl, _, rfl, _, rfl, t', _, so, k, b, rfl, ht', by omega, can.pl, fun t2 H6 s6 h6 => ?_⟩
    refine ⟨_, _, t2, rfl, s4.trans s6, ?_⟩
    rw [take_snoc hi2, run_snoc]
    exact h6
  · rintro σ H4 ⟨v5, v6, t', rfl, s4, ht'⟩
    rw [el, List.take_length] at ht'
    exact ⟨_, rfl, h t' H4 s4 ht'⟩
/-! ### all that can be reached -/
theorem NDict.ext {H : Hp} {d : Addr} {l : List Stn} (N : NDict P w H d l) : ∃ φ, H d = some (.ext φ) := by
  obtain ⟨_, _, _, _, h, _⟩ := N
  exact ⟨_, h⟩
theorem tk_ext {H H' : Hp} {d : Addr} {φ : Heap → Prop} (h : H d = some (.ext φ)) (s : ∀ b, b ≠ d → H' b = H b) : Tk H H' := fun a xs e => by
  rw [s a (fun z => by rw [z, h] at e; cases e)]
  exact e
def pr_ways_to (P : Program) (w : World) (K : PySem.W.Frag) : Pr := fun vs H Q => ∃ r o ru so, vs = [.ref r, .ref o] ∧ Arg2 K H r o ru so ∧ ∀ d l H', Same H H' → NDict P w H' d l → Reach ru so l → Q (.ref d) H'
theorem sc_ways_to : FnScope ["rule", "songs", "start", "found", "line", "at", "here", "step", "later"] ["rule", "songs"] (defScope s_ways_to) := ⟨rfl, rfl, rfl, by decide +kernel, rfl, by decide +kernel, by decide +kernel⟩
theorem ok_ways_to (T : T K mg) : Ok P w K mg base 7 (He.ga K "ways_to") (pr_ways_to P w K) := by
  refine Dn.ok T.ways_to sc_ways_to (fun _ _ _ _ _ _ us hl => match us, hl with | [_, _], _ => rfl) (fun vs H Q h => ?_) fun cdv A outer s H vs Q E hr h => ?_
  · obtain ⟨_, _, _, _, rfl, _⟩ := h
    rfl
  obtain ⟨r, o, ru, so, rfl, Ar, h⟩ := h
  have ok0 := fst0_ok Ar.ro Ar.sk
  refine ⟨_, (pss_cons (ps_set (i := 2) sc_ways_to.nd rfl (by first | exact .inl rfl | exact .inr rfl) (pe_cal (ok_first_standing T) (hr.mono (by decide)) rfl T.first_standing (pa_cons (pv 0) pa_nil))) (pss_cons (ps_par3 (i := 3) (j := 4) (l := 5) rfl sc_ways_to.nd rfl rfl rfl (by decide) (by decide) (by decide) rfl rfl rfl (pa_cons (pe_dispN (by exact hr.units) (pv 2) pe_non) (pa_cons (pe_lst (pa_cons (pv 2) pa_nil)) (pa_cons pe_int pa_nil))) (by rfl)) (pss_cons (ps_while PassesOwn.never (pt_cmpR op_lt (pv 5) (pe_callB (lenK (K := K) rfl) rfl T.z_len b_len (pa_cons (pv 4) pa_nil)) (nomark _)) (pss_cons (ps_set (i := 6) sc_ways_to.nd rfl (by first | exact .inl rfl | exact .inr rfl) (pe_ix (ixL (K := K) rfl) (pv 4) (pv 5) (fun _ _ => rfl))) (pss_cons (ps_aug (i := 5) sc_ways_to.nd rfl (.inl rfl) pe_int ip_add) (pss_one (ps_for PassesOwn.never rfl (piL (K := K) rfl (pe_cal (ok_steps_from T) (hr.mono (by decide)) rfl T.steps_from (pa_cons (pv 0) (pa_cons (pv 1) (pa_cons (pv 6) pa_nil))))) (pg_name (i := 7) sc_ways_to.nd rfl (by first | exact .inl rfl | exact .inr rfl)) (pss_cons (ps_set (i := 8) sc_ways_to.nd rfl (by first | exact .inl rfl | exact .inr rfl) (pe_cal (ok_drawn T) (hr.mono (by decide)) rfl T.drawn (pa_cons (pv 6) (pa_cons (pe_ix (ixT (K := K) rfl) (pv 7) pe_int (fun _ _ => rfl)) (pa_cons (pe_ix (ixT (K := K) rfl) (pv 7) pe_int (fun _ _ => rfl)) pa_nil))))) (pss_one (ps_if (pt_cmpR (op_notN (by exact hr.units)) (pv 8) (pv 3) (by rfl)) (pss_cons (ps_asg (pe_tup (pa_cons (pv 6) (pa_cons (pv 7) pa_nil))) (pg_sub (pv 3) (pv 8) (set_N (by exact hr.units)))) (pss_one (ps_expr (pe_bm PySem.F.plainAttrs_list PySem.F.slot_list_append PySem.F.type_list_append mt_append (pv 4) (pa_cons (pv 8) pa_nil))))) pss_nil)))))))) (pss_one (ps_ret (pv 3)))))), ?_⟩
  refine ⟨_, rfl, r, ru, rfl, Ar.R, Ar.ro, fun t0 H1 s1 ht0 => ?_⟩
  refine fun D hD => ⟨_, rfl, upd_same, t0, _, rfl, ht0.mono (Tk.new hD), fun H2 N2 e2 => ⟨_, rfl, by show 1 ≤ sizeLine; decide, fun L hL => ⟨_, _, _, rfl, ?_⟩⟩⟩
  have hD0 : H D = none := s1.free hD
  have s2 : Same H H2 := fun b ob e => by
    have hb : b ≠ D := ne_of_none e hD0
    rw [e2 b hb, upd_ne hb]
    exact s1 _ _ e
  have tk2 : Tk H1 H2 := fun b xs e => by
    have hb : b ≠ D := ne_of_none e hD
    rw [e2 b hb, upd_ne hb]
    exact e
  have nDL : D ≠ L := fun z => by obtain ⟨φ, h⟩ := N2.ext; rw [z, hL] at h; cases h
  refine while_by (fun σ H' => ∃ ts l n v6 v7 v8, σ = [some (.ref r), some (.ref o), some (.ref t0), some (.ref D), some (.ref L), some (.int (n : Nat)), v6, v7, v8] ∧ Same H H' ∧ H' L = some (.lst (ts.map V.ref)) ∧ StsAt H' ts l ∧ NDict P w H' D l ∧ (∀ st ∈ l, StOk ru so st) ∧ fst0 ru ∈ l ∧ n ≤ l.length ∧ (∀ i st, i < n → l[i]? = some st → ∀ s ∈ steps ru so st, drawn st s.1 s.2 ∈ l))
    (fun σ _ => 1000 - slotN σ 5)
    ⟨[t0], [fst0 ru], 0, none, none, none, rfl, s2.up hL, upd_same, .cons (ht0.mono (tk2.trans (Tk.new hL))) .nil, N2.mono (Tk.new hL) (fun ob e => by rw [upd_ne nDL]; exact e), fun st hst => by rw [List.mem_singleton.mp hst]; exact ok0, by simp, Nat.zero_le _, fun i st hi => by omega⟩ ?_ ?_
  rintro σ H3 ⟨ts, l, n, v6, v7, v8, rfl, s3, hL3, hts, N3, okl, hf, hn, cl⟩
  have few := stns_few Ar.ro Ar.sk N3.nodup okl
  have lts : ts.length = l.length := Paired.length hts
  refine ⟨_, rfl, _, rfl, _, l.length, rfl, .inl ⟨_, SqL.of hL3, by rw [List.length_map, lts]⟩, _, _, rfl, rfl, _, rfl, ?_⟩
  by_cases hlt : n < l.length
  · refine iteTe (by simpa using hlt) ?_
    obtain ⟨st, hst⟩ : ∃ st, l[n]? = some st := ⟨_, List.getElem?_eq_getElem hlt⟩
    obtain ⟨t', ht', hSt⟩ : ∃ t', ts[n]? = some t' ∧ StAt H3 t' st := by
      have hx : ts[n]? = some (ts[n]'(by omega)) := List.getElem?_eq_getElem _
      obtain ⟨st2, h1, h2⟩ := paired_at hts hx
      rw [hst] at h1
      cases h1
      exact ⟨_, hx, h2⟩
    have okst := okl st (List.mem_of_getElem? hst)
    have hl3 := stok_len Ar.ro okst
    refine ⟨_, rfl, _, rfl, L, _, _, .ref t', rfl, rfl, SqL.of hL3, atI_nat (by rw [List.getElem?_map, ht']; rfl), _, rfl, _, _, rfl, rfl, ?_⟩
    refine ⟨_, rfl, _, rfl, _, rfl, r, o, t', ru, so, st, rfl, (Ar.mono s3).arg hSt okst, fun sl us H4 s4 hsln hsl pus => ⟨sl, rfl, ⟨_, SqL.of hsl⟩, ?_⟩⟩
    have lus : us.length = (steps ru so st).length := Paired.length pus
    have s34 := s3.trans s4
    have hsD : sl ≠ D := fun z => by obtain ⟨φ, h⟩ := N3.ext; rw [z, h] at hsln; cases hsln
    have hsL : sl ≠ L := fun z => by rw [z, hL3] at hsln; cases hsln
    have ntt : ∀ {H' : Hp} {l' : List Stn}, NDict P w H' D l' → ∀ {xs : List V}, H' L = some (.lst xs) → D ≠ L := fun N _ e z => by obtain ⟨φ, h⟩ := N.ext; rw [z, e] at h; cases h
    refine for_it (walk_list (xs := us)) (fun i σ H' => ∃ ts2 ex v7 v8, σ = [some (.ref r), some (.ref o), some (.ref t0), some (.ref D), some (.ref L), some (.int ((n : Nat) + 1 : Int)), some (.ref t'), v7, v8] ∧ Same H H' ∧ Tk H4 H' ∧ H' sl = some (.lst us) ∧ H' L = some (.lst (ts2.map V.ref)) ∧ StsAt H' ts2 (l ++ ex) ∧ NDict P w H' D (l ++ ex) ∧ (∀ st ∈ l ++ ex, StOk ru so st) ∧ (∀ s ∈ (steps ru so st).take i, drawn st s.1 s.2 ∈ l ++ ex))
      ⟨ts, [], v7, v8, rfl, s34, Tk.refl _, hsl, s4 _ _ hL3, by rw [List.append_nil]; exact hts.mono s4.tk, by rw [List.append_nil]; exact N3.mono s4.tk (s4 _), by rw [List.append_nil]; exact okl, fun s hs => by simp at hs⟩ (fun i σ H' _ ⟨_, _, _, _, _, _, _, e, _⟩ => SqL.of e) ?_ ?_
    · rintro i x σ H5 H' hi ⟨ts2, ex, v7', v8', rfl, s5, k5, hsl5, hL5, hts5, N5, ok5, cl5⟩ ⟨rfl, e2⟩
      obtain ⟨⟨k, b⟩, hi2, a, rfl, ha⟩ := paired_at pus e2
      have can : Can ru so st k := (steps_mem Ar.sk.nd (s := (k, b))).mp (List.mem_of_getElem? hi2)
      have ha5 := k5 _ _ ha
      have okd := drawn_ok Ar.sk okst can.pl b
      have few5 := stns_few Ar.ro Ar.sk N5.nodup ok5
      have tst : (steps ru so st).take (i + 1) = (steps ru so st).take i ++ [(k, b)] := take_snoc hi2
      refine ⟨_, rfl, _, rfl, a, _, _, _, rfl, rfl, SqT.of ha5, rfl, _, rfl, a, _, _, _, rfl, rfl, SqT.of ha5, rfl, t', st, so, k, b, rfl, hSt.mono (s4.tk.trans k5), by omega, can.pl, fun tl H6 s6 h6 => ?_⟩
      have N6 := N5.mono s6.tk (s6 _)
      refine ⟨_, rfl, _, rfl, tl, D, _, _, rfl, rfl, h6, N6, _, rfl, ?_⟩
      by_cases hin : drawn st k b ∈ l ++ ex
      · refine iteFe (by rw [decide_eq_true hin]; rfl) ⟨ts2, ex, _, _, rfl, s5.trans s6, k5.trans s6.tk, s6 _ _ hsl5, s6 _ _ hL5, hts5.mono s6.tk, N6, ok5, fun s hs => ?_⟩
        rw [tst] at hs
        rcases List.mem_append.mp hs with hs | hs
        · exact cl5 s hs
        · rw [List.mem_singleton.mp hs]
          exact hin
      · refine iteTe (by rw [decide_eq_false hin]; rfl) ⟨_, rfl, _, rfl, by show 2 ≤ sizeLine; decide, fun p hp => ⟨_, rfl, _, rfl, D, tl, _, l ++ ex, rfl, rfl, h6.mono (Tk.new hp), N6.mono (Tk.new hp) ((sms H6).up hp _), hin, by omega, fun H8 N8 e8 => ?_⟩⟩
        have s7 := (sms H6).up hp (o := .tup [.ref t', .ref a])
        obtain ⟨φ, hφ⟩ := (N6.mono (Tk.new hp) ((sms H6).up hp _) : NDict P w (upd H6 p (.tup [.ref t', .ref a])) D (l ++ ex)).ext
        have k8 : Tk (upd H6 p (.tup [.ref t', .ref a])) H8 := tk_ext hφ e8
        have hDL : D ≠ L := ntt N5 hL5
        have hL8 : H8 L = some (.lst (ts2.map V.ref)) := by rw [e8 L (Ne.symm hDL)]; exact s7 _ _ (s6 _ _ hL5)
        have hsl8 : H8 sl = some (.lst us) := by rw [e8 sl hsD]; exact s7 _ _ (s6 _ _ hsl5)
        have lts2 : ts2.length = (l ++ ex).length := Paired.length hts5
        refine ⟨_, rfl, .inl ⟨rfl, _, SqL.of hL8⟩, _, rfl, L, _, _, rfl, rfl, hL8, ?_, ?_⟩
        · show (ts2.map V.ref).length < sizeLine
          rw [List.length_map, lts2, sizeLine_eq]
          omega
        have k9 : Tk H8 (upd H8 L (.lst (ts2.map V.ref ++ [.ref tl]))) := Tk.at hL8 (fun xs z => by cases z)
        have kk : Tk H6 (upd H8 L (.lst (ts2.map V.ref ++ [.ref tl]))) := ((Tk.new hp).trans k8).trans k9
        have s9 : Same H (upd H8 L (.lst (ts2.map V.ref ++ [.ref tl]))) := fun b' ob e => by
          have h1 : b' ≠ D := ne_of_none e hD0
          have h2 : b' ≠ L := fun z => by
            have := s2.free hL
            rw [z, this] at e
            cases e
          rw [upd_ne h2, e8 b' h1]
          exact (s5.trans (s6.trans s7)) _ _ e
        refine ⟨ts2 ++ [tl], ex ++ [drawn st k b], _, _, rfl, s9, k5.trans (s6.tk.trans kk), by rw [upd_ne hsL]; exact hsl8, by rw [upd_same, List.map_append]; rfl, ?_, ?_, ?_, ?_⟩
        · rw [← List.append_assoc]
          exact paired_snoc (h6.mono kk) ((hts5.mono s6.tk).mono kk)
        · rw [← List.append_assoc]
          exact N8.mono k9 (fun ob e => by rw [upd_ne hDL]; exact e)
        · rw [← List.append_assoc]
          intro st' hst'
          rcases List.mem_append.mp hst' with q | q
          · exact ok5 st' q
          · rw [List.mem_singleton.mp q]
            exact okd
        · rw [← List.append_assoc]
          intro s hs
          rw [tst] at hs
          rcases List.mem_append.mp hs with hs | hs
          · exact List.mem_append_left _ (cl5 s hs)
          · rw [List.mem_singleton.mp hs]
            exact List.mem_append_right _ (by simp)
    · rintro σ H5 ⟨ts2, ex, v7', v8', rfl, s5, k5, hsl5, hL5, hts5, N5, ok5, cl5⟩
      rw [lus, List.take_length] at cl5
      refine ⟨⟨ts2, l ++ ex, n + 1, _, _, _, rfl, s5, hL5, hts5, N5, ok5, List.mem_append_left _ hf, by rw [List.length_append]; omega, fun i st2 hi2 e => ?_⟩, ?_⟩
      · rw [List.getElem?_append_left (by omega)] at e
        by_cases q : i = n
        · subst q
          rw [hst] at e
          cases e
          exact cl5
        · exact fun s hs => List.mem_append_left _ (cl i st2 (by omega) e s hs)
      · show 1000 - ((n : Int) + 1).toNat < 1000 - ((n : Nat) : Int).toNat
        omega
  · refine iteFe (by simpa using hlt) ⟨_, rfl, h D l H3 s3 N3 ⟨okl, hf, fun st hst k b c => ?_⟩⟩
    obtain ⟨j, hj, ej⟩ := List.getElem_of_mem hst
    exact cl j st (by omega) (by rw [List.getElem?_eq_getElem hj, ej]) (k, b) ((steps_mem Ar.sk.nd).mpr c)
  · exact fun σ H Q Q' hm ⟨v, hv, v2, hv2, x, m, e, L, i, j, e1, e2, k, hk, q⟩ => ⟨v, hv, v2, hv2, x, m, e, L, i, j, e1, e2, k, hk, hm _ _ q⟩
def pr_standings_of (K : PySem.W.Frag) : Pr := fun vs H Q => ∃ r o ru so, vs = [.ref r, .ref o] ∧ Arg2 K H r o ru so ∧ ∀ p l ts H', Same H H' → H' p = some (.lst (ts.map V.ref)) → StsAt H' ts l → Reach ru so l → l.length ≤ 343 → Q (.ref p) H'
theorem sc_standings_of : FnScope ["rule", "songs"] ["rule", "songs"] (defScope s_standings_of) := ⟨rfl, rfl, rfl, by decide +kernel, rfl, by decide +kernel, by decide +kernel⟩
theorem ok_standings_of (T : T K mg) : Ok P w K mg base 8 (He.ga K "standings_of") (pr_standings_of K) := by
  refine Dn.ok T.standings_of sc_standings_of (fun _ _ _ _ _ _ us hl => match us, hl with | [_, _], _ => rfl) (fun vs H Q h => ?_) fun cdv A outer s H vs Q E hr h => ?_
  · obtain ⟨_, _, _, _, rfl, _⟩ := h
    rfl
  obtain ⟨r, o, ru, so, rfl, Ar, h⟩ := h
  refine ⟨_, (pss_one (ps_ret (pe_callB (cr_sortN rfl (by exact hr.units)) rfl T.z_sorted b_sorted (pa_cons (pe_cal (ok_ways_to T) (hr.mono (by decide)) rfl T.ways_to (pa_cons (pv 0) (pa_cons (pv 1) pa_nil))) pa_nil)))), ?_⟩
  refine ⟨_, rfl, _, rfl, r, o, ru, so, rfl, Ar, fun d l H1 s1 N R => ?_⟩
  have few := stns_few Ar.ro Ar.sk N.nodup R.ok
  refine ⟨d, l, ru.w.length - 1, rfl, N, fun st hst => by have := (R.ok st hst).len; omega, by omega, fun p l' ts hp pm hts => ?_⟩
  exact h p l' ts _ (s1.up hp) upd_same (hts.mono (Tk.new hp)) (R.perm pm) (by rw [pm.length_eq]; exact few)
end
end U

set_option Elab.async false
set_option linter.all false
set_option maxRecDepth 100000
set_option maxHeartbeats 4000000
/-! Sorted names; the songs of a dict; barring. -/
namespace U
open PySem PySem.Spec PyProof.Rows L2
def leS (a b : Str) : Prop := ¬ b.cps.toList < a.cps.toList
theorem leS_trans {a b c : Str} (h1 : leS a b) (h2 : leS b c) : leS a c := List.le_trans (l₁ := a.cps.toList) (l₂ := b.cps.toList) (l₃ := c.cps.toList) h1 h2
theorem str_ext {a b : Str} (h : a.cps.toList = b.cps.toList) : a = b := by
  obtain ⟨a⟩ := a
  obtain ⟨b⟩ := b
  simp at h
  rw [h]
theorem leS_anti {a b : Str} (h1 : leS a b) (h2 : leS b a) : a = b := str_ext (List.le_antisymm (as := a.cps.toList) (bs := b.cps.toList) h1 h2)
theorem rising_pw : ∀ (p : Str) (l : List Str), risingS p l = true → (p :: l).Pairwise leS
  | p, [], _ => by simp
  | p, x :: r, h => by
    have h' : (!ltCps x.cps.toList p.cps.toList && risingS x r) = true := h
    rw [Bool.and_eq_true, ltCps_eq] at h'
    have ih := rising_pw x r h'.2
    have hp : leS p x := by simpa [leS] using h'.1
    rw [List.pairwise_cons]
    refine ⟨fun y hy => ?_, ih⟩
    rcases List.mem_cons.mp hy with e | e
    · rw [e]; exact hp
    · exact leS_trans hp ((List.pairwise_cons.mp ih).1 y e)
theorem sorted_pw {l : List Str} (h : sortedS l = true) : l.Pairwise leS := by
  cases l with
  | nil => exact .nil
  | cons x r => exact rising_pw x r h
theorem sorted_uniq {a b : List Str} (p : a.Perm b) (ha : sortedS a = true) (hb : sortedS b = true) : a = b :=
  List.Perm.eq_of_pairwise (fun x y _ _ h1 h2 => leS_anti h1 h2) (sorted_pw ha) (sorted_pw hb) p
/-- so: the pairs of nu by their names in order -/
structure SoOf (nu so : So) : Prop where
  perm : so.Perm nu
  srt : sortedS (so.map (·.1)) = true
theorem of_keys {nu : So} (nd : (nu.map (·.1)).Nodup) : ∀ {l : So}, (∀ p ∈ l, p ∈ nu) → (l.map (·.1)).map (fun k => (k, num nu k)) = l
  | [], _ => rfl
  | p :: l, h => by
    rw [List.map_cons, List.map_cons, of_keys nd fun q hq => h q (by simp [hq]), num_mem nd (h p (by simp))]
theorem SoOf.mk' {nu : So} (nd : (nu.map (·.1)).Nodup) {ys : List Str} (p : ys.Perm (nu.map (·.1))) (h : sortedS ys = true) : SoOf nu (ys.map fun k => (k, num nu k)) := by
  refine ⟨?_, by rw [List.map_map]; simpa [Function.comp_def] using h⟩
  have := p.map (fun k => (k, num nu k))
  rwa [of_keys nd (fun p hp => hp)] at this
theorem SoOf.uniq {nu so so' : So} (nd : (nu.map (·.1)).Nodup) (h : SoOf nu so) (h' : SoOf nu so') : so = so' := by
  have e : so.map (·.1) = so'.map (·.1) := sorted_uniq ((h.perm.trans h'.perm.symm).map _) h.srt h'.srt
  rw [← of_keys nd (l := so) (fun p hp => h.perm.mem_iff.mp hp), e, of_keys nd (fun p hp => h'.perm.mem_iff.mp hp)]
theorem sum_perm {a b : List Int} (p : a.Perm b) : a.sum = b.sum := by
  induction p with
  | nil => rfl
  | cons x _ ih => rw [List.sum_cons, List.sum_cons, ih]
  | swap x y l => rw [List.sum_cons, List.sum_cons, List.sum_cons, List.sum_cons]; omega
  | trans _ _ h1 h2 => exact h1.trans h2
theorem SoOk.perm {a b : So} (h : SoOk a) (p : b.Perm a) : SoOk b :=
  ⟨by rw [p.length_eq]; exact h.l1, by rw [p.length_eq]; exact h.l3, (p.map _).nodup_iff.mpr h.nd, fun q hq => h.nm q (p.mem_iff.mp hq), fun q hq => h.np q (p.mem_iff.mp hq), by rw [sum_perm (p.map _)]; exact h.pos⟩
/-! barring -/
def bar (ru : Ru) (k : Nat) : Ru := ⟨List.replicate k 0 ++ ru.w.drop k, List.replicate k 0 ++ ru.s.drop k, ru.n⟩
theorem bar_ok {ru : Ru} (ok : RuOk ru) {k : Nat} (h : k < ru.w.length) : RuOk (bar ru k) := by
  have hl := ok.sl
  have e1 : (bar ru k).w.length = ru.w.length := by simp [bar]; omega
  have e2 : (bar ru k).s.length = ru.s.length := by simp [bar]; omega
  refine ⟨by rw [e1]; exact ok.w1, by rw [e1]; exact ok.w4, by rw [e1, e2]; exact hl, fun x hx => ?_, fun x hx => ?_, ok.n0, by rw [e1]; exact ok.n1⟩
  · rcases List.mem_append.mp hx with hx | hx
    · rw [List.eq_of_mem_replicate hx]; omega
    · exact ok.wp x (List.mem_of_mem_drop hx)
  · rcases List.mem_append.mp hx with hx | hx
    · rw [List.eq_of_mem_replicate hx]; omega
    · exact ok.sp x (List.mem_of_mem_drop hx)
theorem StOk.bar {ru : Ru} {so : So} {st : Stn} (h : StOk ru so st) {k : Nat} (hk : k < ru.w.length) : StOk (bar ru k) so st := ⟨by rw [h.len]; simp [U.bar]; omega, h.kin, h.few⟩
end U

set_option Elab.async false
set_option linter.all false
set_option maxRecDepth 100000
set_option maxHeartbeats 4000000
/-! Rules and songs are made. -/
namespace U
open PySem PySem.Spec PyProof.Rows L2
section
variable {P : Program} {w : World} {K : PySem.W.Frag} {mg : Str → Option Value} {base : Heap}
def pr_are_weights : Pr := fun vs H Q => ∃ (t : Addr) (a b : Int) (ns : List Int), vs = [.ref t, .int a, .int b] ∧ H t = some (.tup (ns.map V.int)) ∧ a ≤ ns.length ∧ (ns.length : Int) ≤ b ∧ ns.length ≤ 100 ∧ (∀ x ∈ ns, 0 ≤ x ∧ x ≤ 9) ∧ ∀ H', Same H H' → Q (.bl true) H'
theorem sc_are_weights : FnScope ["thing", "least", "most", "weight"] ["thing", "least", "most"] (defScope s_are_weights) := ⟨rfl, rfl, rfl, by decide +kernel, rfl, by decide +kernel, by decide +kernel⟩
theorem ok_are_weights (T : T K mg) : Ok P w K mg base 3 (He.ga K "are_weights") pr_are_weights := by
  refine Dn.ok T.are_weights sc_are_weights (fun _ _ _ _ _ _ us hl => match us, hl with | [_, _, _], _ => rfl) (fun vs H Q h => ?_) fun cdv A outer s H vs Q E hr h => ?_
  · obtain ⟨_, _, _, _, rfl, _⟩ := h
    rfl
  obtain ⟨t, a, b, ns, rfl, ht, ha, hb, hz, hw, h⟩ := h
  obtain ⟨_, h_MOST_WEIGHT⟩ := T.c_MOST_WEIGHT
  refine ⟨_, (pss_cons (ps_if (PW.pt (pw_or (pt_not (pt_val (pe_callB (isiK (K := K) rfl) rfl T.z_isinstance b_isinstance (pa_cons (pv 0) (pa_cons (pe_bltn (v := .ty "tuple") rfl T.z_tuple b_tuple rfl) pa_nil))))) (pw_or1 (pt_not (pt_chain op_le op_le (pv 1) (pe_callB (lenK (K := K) rfl) rfl T.z_len b_len (pa_cons (pv 0) pa_nil)) (pv 2)))))) (pss_one (ps_ret pe_bl)) pss_nil) (pss_one (ps_ret (pe_callB (cr_all rfl) rfl T.z_all b_all (pa_cons (pe_lc (own := [("weight", 3)]) (g := gName 3) (tt := tYes) rfl sc_are_weights.nd  (piT (K := K) rfl (pv 0)) (blkOk_by (N := ["thing", "least", "most", "weight"]) (sc := defScope s_are_weights) (by decide +kernel)) (fun _ _ _ _ _ => pg_name (i := 3) sc_are_weights.nd rfl (by first | exact .inl rfl | exact .inr rfl)) (fun _ _ _ _ _ => pts_nil) (fun _ _ _ _ _ => (pe_and (pe_cal (ok_is_number T) (hr.mono (by decide)) rfl T.is_number (pa_cons (pv 3) pa_nil)) (pe_one (pe_cmpR op_le (pv 3) (pe_glob (v := .int 9) rfl h_MOST_WEIGHT ⟨_, rfl⟩) (nomark _)))))) pa_nil))))), ?_⟩
  refine ⟨_, rfl, _, _, _, _, true, rfl, .ty "tuple", .base (.tup ht), kit_ty (by decide +kernel : kitB "tuple" "tuple" = some true), _, rfl, iteF ?_⟩
  refine ⟨_, rfl, _, rfl, _, ns.length, rfl, .inr ⟨_, SqT.of ht, (List.length_map _).symm⟩, _, _, rfl, rfl, _, rfl, iteTe (decide_eq_true ha) ⟨_, rfl, _, _, rfl, rfl, _, rfl, ?_⟩⟩
  have e : (!decide ((ns.length : Int) ≤ b)) = false := by rw [decide_eq_true hb]; rfl
  refine iteFe e ?_
  refine ⟨_, rfl, t, rfl, ⟨_, SqT.of ht⟩, fun D hD => ?_⟩
  refine lc_go rel_same (walk_tup (xs := ns.map V.int)) hD (sms _) (fun i => List.replicate i true) (fun _ v b => v = V.bl b) rfl (fun H1 s1 => SqT.of (s1 _ _ ht)) ?_ ?_
  · rintro i x H1 H' hi I ⟨rfl, e2⟩
    rw [List.getElem?_map] at e2
    obtain ⟨n, hn, rfl⟩ := Option.map_eq_some_iff.mp e2
    have hb := hw n (List.mem_of_getElem? hn)
    rw [List.length_map] at hi
    exact ⟨rfl, _, rfl, n, rfl, hb.1, _, rfl, iteT ⟨_, rfl, _, _, rfl, rfl, I.step rel_same hD tkBl (by omega) (sms _) List.replicate_succ' (congrArg V.bl (decide_eq_true hb.2))⟩⟩
  · intro us H1 h1 s1 p1
    refine ⟨D, List.replicate (ns.map V.int).length true, rfl, SqL.of (by rw [h1, paired_eq p1]), ?_⟩
    rw [all_rep]
    exact h H1 s1
def pr_Rule_init (K : PySem.W.Frag) : Pr := fun vs H Q => ∃ x dx wa sa ru, vs = [.ref x, .ref wa, .ref sa, .int ru.n] ∧ H x = some (.ins (He.ga K "Rule") dx []) ∧ H wa = some (.tup (ru.w.map V.int)) ∧ H sa = some (.tup (ru.s.map V.int)) ∧ RuOk ru ∧
  ∀ H', (∀ b o, H b = some o → b ≠ x → H' b = some o) → RuAt K H' x ru → Q .non H'
theorem sc_Rule_init : FnScope ["self", "weights", "skipped", "spread"] ["self", "weights", "skipped", "spread"] (defScope s_Rule_init) := ⟨rfl, rfl, rfl, by decide +kernel, rfl, by decide +kernel, by decide +kernel⟩
theorem ok_Rule_init (T : T K mg) : ∃ fd, FnOk P w K mg base CX0 4 (He.ma K (He.ga K "Rule") "__init__") fd ["self", "weights", "skipped", "spread"] (pr_Rule_init K).sp ∧ Binds K fd ["self", "weights", "skipped", "spread"] [] := by
  obtain ⟨fd, F⟩ := T.Rule_init.fn
  obtain ⟨ds, hv, hb⟩ := F.binds1 (ps := ["self", "weights", "skipped", "spread"]) 4 1 (by simp) rfl fun T kV doc pm an cdv ct us its h1 h2 => match us, its, h1, h2 with | [_, _, _, _], [_], _, _ => ⟨_, rfl, rfl⟩
  cases hv
  refine ⟨fd, ?_, hb⟩
  refine F.ok sc_Rule_init (fun vs H Q E h => ?_) fun cdv A outer s H vs Q E hr h => ?_
  · obtain ⟨_, _, _, _, _, rfl, _⟩ := h
    rfl
  obtain ⟨x, dx, wa, sa, ru, rfl, hx, hw, hs, ok, h⟩ := h
  obtain ⟨_, h_MOST_CAP⟩ := T.c_MOST_CAP
  have w1 := ok.w1
  have w4 := ok.w4
  have sl := ok.sl
  have go : ∃ t, PSs (cxU P w K mg base ["self", "weights", "skipped", "spread"] "Rule.__init__" s_Rule_init (He.ma K (He.ga K "Rule") "__init__") cdv A outer s H E) (defBody s_Rule_init) t ∧ t { nx := fun _ H' => Q .non H', rt := Q } (start ["self", "weights", "skipped", "spread"] [.ref x, .ref wa, .ref sa, .int ru.n]) H := by
    refine ⟨_, (pss_cons (ps_if (pt_not (pt_val (pe_cal (ok_are_weights T) (hr.mono (by decide)) rfl T.are_weights (pa_cons (pv 1) (pa_cons pe_int (pa_cons (pe_glob (v := .int 4) rfl h_MOST_CAP ⟨_, rfl⟩) pa_nil)))))) (pss_one ps_never) pss_nil) (pss_cons (ps_if (pt_not (pt_val (pe_cal (ok_are_weights T) (hr.mono (by decide)) rfl T.are_weights (pa_cons (pv 2) (pa_cons (pe_op op_sub (pe_callB (lenK (K := K) rfl) rfl T.z_len b_len (pa_cons (pv 1) pa_nil)) pe_int) (pa_cons (pe_op op_sub (pe_callB (lenK (K := K) rfl) rfl T.z_len b_len (pa_cons (pv 1) pa_nil)) pe_int) pa_nil)))))) (pss_one ps_never) pss_nil) (pss_cons (ps_if (PW.pt (pw_or (pt_not (pt_val (pe_cal (ok_is_number T) (hr.mono (by decide)) rfl T.is_number (pa_cons (pv 3) pa_nil)))) (pw_or1 (pt_cmpR op_ge (pv 3) (pe_callB (lenK (K := K) rfl) rfl T.z_len b_len (pa_cons (pv 1) pa_nil)) (nomark _))))) (pss_one ps_never) pss_nil) (pss_cons (ps_fld (pv 0) (pv 1) rfl) (pss_cons (ps_fld (pv 0) (pv 2) rfl) (pss_one (ps_fld (pv 0) (pv 3) rfl))))))), ?_⟩
    refine ⟨_, rfl, wa, 1, 4, ru.w, rfl, hw, by omega, by omega, by omega, ok.wp, fun H1 s1 => ⟨_, rfl, iteF ?_⟩⟩
    have el : ((ru.w.length : Nat) : Int) - 1 = ru.s.length := by omega
    refine ⟨_, rfl, _, rfl, _, ru.w.length, rfl, .inr ⟨_, SqT.of (s1 _ _ hw), (List.length_map _).symm⟩, _, _, rfl, rfl, _, rfl, _, ru.w.length, rfl, .inr ⟨_, SqT.of (s1 _ _ hw), (List.length_map _).symm⟩, _, _, rfl, rfl, sa, _, _, ru.s, rfl, s1 _ _ hs, by omega, by omega, by omega, ok.sp, fun H2 s2 => ⟨_, rfl, iteF ?_⟩⟩
    have s12 := s1.trans s2
    refine ⟨_, rfl, ru.n, rfl, ok.n0, _, rfl, iteF ⟨_, rfl, _, rfl, _, ru.w.length, rfl, .inr ⟨_, SqT.of (s12 _ _ hw), (List.length_map _).symm⟩, _, _, rfl, rfl, _, rfl, iteFe (decide_eq_false (by have := ok.n1; omega)) ?_⟩⟩
    have nwx : wa ≠ x := fun z => by rw [z, hx] at hw; cases hw
    have nsx : sa ≠ x := fun z => by rw [z, hx] at hs; cases hs
    refine ⟨_, rfl, _, rfl, x, _, dx, [], rfl, s12 _ _ hx, T.kRule, T.nWeights, by show 0 < 1000; decide, ?_⟩
    refine ⟨_, rfl, _, rfl, x, _, dx, [("r_weights", .ref wa)], rfl, upd_same, T.kRule, T.nSkipped, by show 1 < 1000; decide, ?_⟩
    refine ⟨_, rfl, _, rfl, x, _, dx, [("r_weights", .ref wa), ("r_skipped", .ref sa)], rfl, upd_same, T.kRule, T.nSpread, by show 2 < 1000; decide, ?_⟩
    refine h _ (fun b o e nb => by rw [upd_ne nb, upd_ne nb, upd_ne nb]; exact s12 _ _ e) ⟨dx, wa, sa, upd_same, ?_, ?_⟩
    · rw [upd_ne nwx, upd_ne nwx, upd_ne nwx]
      exact s12 _ _ hw
    · rw [upd_ne nsx, upd_ne nsx, upd_ne nsx]
      exact s12 _ _ hs
  obtain ⟨t, h1, h2⟩ := go
  exact ⟨t, h1.nox, h2⟩
def pr_barring (K : PySem.W.Frag) : Pr := fun vs H Q => ∃ r ru, ∃ k : Nat, vs = [.ref r, .int k] ∧ RuAt K H r ru ∧ RuOk ru ∧ k < ru.w.length ∧ ∀ r' H', Same H H' → RuAt K H' r' (bar ru k) → Q (.ref r') H'
theorem cutV_from {xs : List V} {n : Nat} (h : n ≤ xs.length) : cutV xs (some (n : Int)) none = xs.drop n := by
  have e1 : HT.sIx xs.length 0 (some (n : Int)) = n := by unfold HT.sIx; simp only; split <;> omega
  unfold cutV
  rw [e1]
  show (xs.drop n).take (xs.length - n) = _
  rw [List.take_of_length_le (by rw [List.length_drop]; exact Nat.le_refl _)]
theorem sc_Rule_barring : FnScope ["self", "last", "none", "age"] ["self", "last"] (defScope s_Rule_barring) := ⟨rfl, rfl, rfl, by decide +kernel, rfl, by decide +kernel, by decide +kernel⟩
theorem ok_Rule_barring (T : T K mg) : ∃ fd, FnOk P w K mg base CX0 6 (He.ma K (He.ga K "Rule") "barring") fd ["self", "last"] (pr_barring K).sp ∧ Binds K fd ["self", "last"] [] := by
  refine ok_meth T.Rule_barring.fn sc_Rule_barring (fun _ _ _ _ _ _ us hl => match us, hl with | [_, _], _ => rfl) (fun vs H Q h => ?_) fun cdv A outer s H vs Q E hr h => ?_
  · obtain ⟨_, _, _, rfl, _⟩ := h
    rfl
  obtain ⟨r, ru, k, rfl, R, ok, hk, h⟩ := h
  obtain ⟨fdR, FR, bR⟩ := ok_Rule_init (P := P) (w := w) (base := base) T
  have w4 := ok.w4
  have sl := ok.sl
  refine ⟨_, (pss_cons (ps_if (PW.pt (pw_or (pt_not (pt_val (pe_cal (ok_is_number T) (hr.mono (by decide)) rfl T.is_number (pa_cons (pv 1) pa_nil)))) (pw_or1 (pt_cmpR op_ge (pv 1) (pe_prp T.Rule_cap.pr T.kRule (ok_Rule_cap T) (hr.mono (by decide)) (pv 0) rfl) (nomark _))))) (pss_one ps_never) pss_nil) (pss_cons (ps_set (i := 2) sc_Rule_barring.nd rfl (by first | exact .inl rfl | exact .inr rfl) (pe_callTy (tupK (K := K) rfl) rfl T.z_tuple b_tuple (pa_cons (pe_lc (own := [("age", 3)]) (g := gName 3) (tt := tYes) rfl sc_Rule_barring.nd  (pi_range1 rfl T.z_range (pa_cons (pv 1) pa_nil)) (blkOk_by (N := ["self", "last", "none", "age"]) (sc := defScope s_Rule_barring) (by decide +kernel)) (fun _ _ _ _ _ => pg_name (i := 3) sc_Rule_barring.nd rfl (by first | exact .inl rfl | exact .inr rfl)) (fun _ _ _ _ _ => pts_nil) (fun _ _ _ _ _ => pe_int)) pa_nil))) (pss_one (ps_ret (pe_make T.mRule FR (hr.mono (by decide)) rfl T.gRule bR .nil pass0 (pa_cons (pe_op (catA (K := K) rfl) (pv 2) (pe_slice (slT (K := K) rfl) (pe_fld (pv 0) rfl) (po_some (pv 1)) po_none)) (pa_cons (pe_op (catA (K := K) rfl) (pv 2) (pe_slice (slT (K := K) rfl) (pe_fld (pv 0) rfl) (po_some (pv 1)) po_none)) (pa_cons (pe_fld (pv 0) rfl) pa_nil)))))))), ?_⟩
  obtain ⟨dx, wa, sa, h1, h2, h3⟩ := id R
  refine ⟨_, rfl, k, rfl, by omega, _, rfl, iteF ⟨_, rfl, _, rfl, r, dx, _, rfl, h1, r, ru, rfl, R, _, _, rfl, rfl, _, rfl, iteFe (decide_eq_false (by omega)) ?_⟩⟩
  refine ⟨_, rfl, (k : Int), rfl, by omega, by omega, fun D hD => ?_⟩
  rw [Int.toNat_natCast]
  refine lc_go rel_same walk_range hD (sms _) (fun i => List.replicate i (0 : Int)) (fun _ v n => v = V.int n) rfl (fun _ _ => trivial) ?_ ?_
  · rintro i x H1 H' hi I ⟨rfl, rfl⟩
    exact ⟨rfl, I.step rel_same hD tkInt (by omega) (sms _) List.replicate_succ' rfl⟩
  intro us H1 e1 s1 p1
  have hz : ∀ n : Nat, n ≤ 100 → n ≤ sizeLine := fun n hn => by rw [sizeLine_eq]; omega
  refine ⟨D, us, rfl, .inl ⟨SqL.of e1, fun nn hnn => ?_⟩⟩
  have eus : us = (List.replicate k (0 : Int)).map V.int := paired_eq p1
  have s2 := s1.up hnn (o := .tup us)
  generalize hH2 : upd H1 nn (.tup us) = H2 at *
  have hn2 : H2 nn = some (.tup ((List.replicate k (0 : Int)).map V.int)) := by rw [← hH2, upd_same, eus]
  refine ⟨_, rfl, _, rfl, r, _, dx, _, _, rfl, s2 _ _ h1, T.kRule, T.nWeights, rfl, _, rfl, _, rfl, ?_⟩
  dsimp only [tNoPart]
  refine slT_of (s2 _ _ h2) fun p1 H3 s3 hp1 => ?_
  rw [cutV_from (by rw [List.length_map]; omega)] at hp1
  refine catA_of (s3 _ _ hn2) hp1 (hz _ (by simp; omega)) fun q1 H4 s4 hq1 => ?_
  have s24 := s2.trans (s3.trans s4)
  refine ⟨_, rfl, _, rfl, r, _, dx, _, _, rfl, s24 _ _ h1, T.kRule, T.nSkipped, rfl, _, rfl, _, rfl, ?_⟩
  dsimp only [tNoPart]
  refine slT_of (s24 _ _ h3) fun p2 H5 s5 hp2 => ?_
  rw [cutV_from (by rw [List.length_map]; omega)] at hp2
  refine catA_of ((s3.trans (s4.trans s5)) _ _ hn2) hp2 (hz _ (by simp; omega)) fun q2 H6 s6 hq2 => ?_
  have s46 := s5.trans s6
  have s26 := s24.trans s46
  refine ⟨_, rfl, r, _, dx, _, _, rfl, s26 _ _ h1, T.kRule, T.nSpread, rfl, ?_⟩
  intro x dx' hx hdx ne
  have sx : Same H6 (upd (upd H6 dx' (.own x)) x (.ins (He.ga K "Rule") dx' [])) := fun b o e => by
    rw [upd_ne (ne_of_none e hx), upd_ne (ne_of_none e hdx)]
    exact e
  refine ⟨x, dx', q1, q2, bar ru k, rfl, upd_same, ?_, ?_, bar_ok ok hk, fun H7 k7 R7 => ⟨rfl, h x H7 ?_ R7⟩⟩
  · refine sx _ _ (s46 _ _ ?_)
    rw [hq1, bar, List.map_append, List.map_drop]
  · refine sx _ _ ?_
    rw [hq2, bar, List.map_append, List.map_drop]
  · exact fun b o e => k7 b o (sx _ _ (s26 _ _ e)) (ne_of_none (s26 _ _ e) hx)
/-! ### names, songs -/
def pr_is_name : Pr := fun vs H Q => ∃ z, vs = [.str z] ∧ NameOk z ∧ ∀ H', Same H H' → Q (.bl true) H'
theorem sc_is_name : FnScope ["thing", "sign"] ["thing"] (defScope s_is_name) := ⟨rfl, rfl, rfl, by decide +kernel, rfl, by decide +kernel, by decide +kernel⟩
theorem ok_is_name (T : T K mg) : Ok P w K mg base 1 (He.ga K "is_name") pr_is_name := by
  refine Dn.ok T.is_name sc_is_name (fun _ _ _ _ _ _ us hl => match us, hl with | [_], _ => rfl) (fun vs H Q h => ?_) fun cdv A outer s H vs Q E hr h => ?_
  · obtain ⟨_, rfl, _⟩ := h
    rfl
  obtain ⟨z, rfl, ⟨n1, n8, nl⟩, h⟩ := h
  obtain ⟨_, h_LONGEST_NAME⟩ := T.c_LONGEST_NAME
  obtain ⟨_, h_LETTERS⟩ := T.c_LETTERS
  refine ⟨_, (pss_cons (ps_if (PW.pt (pw_or (pt_not (pt_val (pe_callB (isiK (K := K) rfl) rfl T.z_isinstance b_isinstance (pa_cons (pv 0) (pa_cons (pe_bltn (v := .ty "str") rfl T.z_str b_str rfl) pa_nil))))) (pw_or1 (pt_not (pt_chain op_le op_le pe_int (pe_callB (lenK (K := K) rfl) rfl T.z_len b_len (pa_cons (pv 0) pa_nil)) (pe_glob (v := .int 8) rfl h_LONGEST_NAME ⟨_, rfl⟩)))))) (pss_one (ps_ret pe_bl)) pss_nil) (pss_one (ps_ret (pe_callB (cr_all rfl) rfl T.z_all b_all (pa_cons (pe_lc (own := [("sign", 1)]) (g := gName 1) (tt := tYes) rfl sc_is_name.nd  (pi_str (pv 0)) (blkOk_by (N := ["thing", "sign"]) (sc := defScope s_is_name) (by decide +kernel)) (fun _ _ _ _ _ => pg_name (i := 1) sc_is_name.nd rfl (by first | exact .inl rfl | exact .inr rfl)) (fun _ _ _ _ _ => pts_nil) (fun _ _ _ _ _ => (pe_cmpR op_in_sign (pv 1) (pe_glob (v := .str "abcdefghijklmnopqrstuvwxyz") rfl h_LETTERS ⟨_, rfl⟩) (by rfl)))) pa_nil))))), ?_⟩
  refine ⟨_, rfl, _, _, _, _, true, rfl, .ty "str", .base (.str z), kit_ty (by decide +kernel : kitB "str" "str" = some true), _, rfl, iteF ?_⟩
  have hz : z.length ≤ sizeLine := by rw [sizeLine_eq]; omega
  refine ⟨_, rfl, _, z.length, rfl, ⟨hz, rfl⟩, _, _, rfl, rfl, _, rfl, iteTe (decide_eq_true (by omega)) ⟨_, _, rfl, rfl, _, rfl, ?_⟩⟩
  have e : (!decide ((z.length : Int) ≤ 8)) = false := by rw [decide_eq_true (by omega)]; rfl
  refine iteFe e ?_
  refine ⟨_, rfl, z, rfl, fun D hD => ?_⟩
  have ez : z.cps.size = z.length := rfl
  refine lc_go rel_same walk_str hD (sms _) (fun i => List.replicate i true) (fun _ v b => v = V.bl b) rfl (fun _ _ => trivial) ?_ ?_
  · rintro i x H1 H' hi I ⟨rfl, c, hc, rfl⟩
    have hm : c ∈ letters.cps.toList := nl c (by
      obtain ⟨hi2, e2⟩ := Array.getElem?_eq_some_iff.mp hc
      rw [← e2]
      exact Array.getElem_mem_toList hi2)
    exact ⟨rfl, _, rfl, c, _, rfl, rfl, I.step rel_same hD tkBl (by omega) (sms _) List.replicate_succ' (congrArg V.bl (decide_eq_true hm))⟩
  · intro us H1 h1 s1 p1
    refine ⟨D, List.replicate z.cps.size true, rfl, SqL.of (by rw [h1, paired_eq p1]), ?_⟩
    rw [all_rep]
    exact h H1 s1
def pr_Songs_init (K : PySem.W.Frag) : Pr := fun vs H Q => ∃ x dx nd nu, vs = [.ref x, .ref nd] ∧ H x = some (.ins (He.ga K "Songs") dx []) ∧ H nd = some (.dK (DI (ks nu))) ∧ SoOk nu ∧
  ∀ H' so, (∀ b o, H b = some o → b ≠ x → H' b = some o) → SoOf nu so → SoAt K H' x so → Q .non H'
theorem sc_Songs_init : FnScope ["self", "numbers", "kind"] ["self", "numbers"] (defScope s_Songs_init) := ⟨rfl, rfl, rfl, by decide +kernel, rfl, by decide +kernel, by decide +kernel⟩
theorem ok_Songs_init (T : T K mg) : ∃ fd, FnOk P w K mg base CX0 3 (He.ma K (He.ga K "Songs") "__init__") fd ["self", "numbers"] (pr_Songs_init K).sp ∧ Binds K fd ["self", "numbers"] [] := by
  refine ok_meth T.Songs_init.fn sc_Songs_init (fun _ _ _ _ _ _ us hl => match us, hl with | [_, _], _ => rfl) (fun vs H Q h => ?_) fun cdv A outer s H vs Q E hr h => ?_
  · obtain ⟨_, _, _, _, rfl, _⟩ := h
    rfl
  obtain ⟨x, dx, nd, nu, rfl, hx, hn, ok, h⟩ := h
  obtain ⟨_, h_MOST_KINDS⟩ := T.c_MOST_KINDS
  have l1 := ok.l1
  have l3 := ok.l3
  have ndk := ks_nodup ok.nd
  have ll : (DI (ks nu)).length = nu.length := by rw [DI_length]; simp
  refine ⟨_, (pss_cons (ps_if (PW.pt (pw_or (pt_not (pt_val (pe_callB (isiK (K := K) rfl) rfl T.z_isinstance b_isinstance (pa_cons (pv 1) (pa_cons (pe_bltn (v := .ty "dict") rfl T.z_dict b_dict rfl) pa_nil))))) (pw_or1 (pt_not (pt_chain op_le op_le pe_int (pe_callB call_lenD rfl T.z_len b_len (pa_cons (pv 1) pa_nil)) (pe_glob (v := .int 3) rfl h_MOST_KINDS ⟨_, rfl⟩)))))) (pss_one ps_never) pss_nil) (pss_cons (ps_if (pt_not (pt_val (pe_callB (cr_all rfl) rfl T.z_all b_all (pa_cons (pe_lock (pe_lc (own := [("kind", 2)]) (g := gName 2) (tt := tYes) rfl sc_Songs_init.nd  (pi_keys (pv 1)) (blkOk_by (N := ["self", "numbers", "kind"]) (sc := defScope s_Songs_init) (by decide +kernel)) (fun _ _ _ _ _ => pg_name (i := 2) sc_Songs_init.nd rfl (by first | exact .inl rfl | exact .inr rfl)) (fun _ _ _ _ _ => pts_nil) (fun _ _ _ _ _ => (pe_cal (ok_is_name T) (hr.mono (by decide)) rfl T.is_name (pa_cons (pv 2) pa_nil))))) pa_nil)))) (pss_one ps_never) pss_nil) (pss_cons (ps_fld (pv 0) pe_dnewK rfl) (pss_cons (ps_for PassesOwn.never rfl (piL (K := K) rfl (pe_callB (call_sortedD rfl) rfl T.z_sorted b_sorted (pa_cons (pv 1) pa_nil))) (pg_name (i := 2) sc_Songs_init.nd rfl (by first | exact .inl rfl | exact .inr rfl)) (pss_cons (ps_if (pt_not (pt_val (pe_cal (ok_is_number T) (hr.mono (by decide)) rfl T.is_number (pa_cons (pe_dget (hu_of hr) (pv 1) (pv 2) (fun _ _ => rfl)) pa_nil)))) (pss_one ps_never) pss_nil) (pss_one (ps_dput (hu_of hr) (pe_fld (pv 0) rfl) (pv 2) (pe_dget (hu_of hr) (pv 1) (pv 2) (fun _ _ => rfl)) rfl)))) (pss_one (ps_if (pt_cmpR op_eq (pe_callB (cr_sum rfl) rfl T.z_sum b_sum (pa_cons (pe_listVals rfl (pe_fld (pv 0) rfl) rfl T.z_list b_list) pa_nil)) pe_int (nomark _)) (pss_one ps_never) pss_nil)))))), ?_⟩
  refine ⟨_, rfl, _, _, _, _, true, rfl, .ty "dict", .base (.dK hn), kit_ty (by decide +kernel : kitB "dict" "dict" = some true), _, rfl, iteF ⟨_, rfl, nd, _, rfl, hn, _, _, rfl, rfl, _, rfl, iteTe (decide_eq_true (by omega)) ⟨_, _, rfl, rfl, _, rfl, ?_⟩⟩⟩
  have e : (!decide (((DI (ks nu)).length : Int) ≤ 3)) = false := by rw [decide_eq_true (by omega)]; rfl
  refine iteFe e ?_
  refine ⟨nd, _, hn, trivial, fun ob => ⟨_, rfl, nd, ob, rfl, .inl ⟨_, upd_same, fun D hD => ?_⟩⟩⟩
  obtain ⟨nDn, hD0⟩ := lock_free hD
  refine lc_go rel_same walk_keys hD (sms _) (fun i => List.replicate i true) (fun _ v b => v = V.bl b) rfl (fun H1 s1 => s1 _ _ upd_same) ?_ ?_
  · rintro i y H1 H' hi I ⟨rfl, k, v, e, rfl⟩
    obtain ⟨n, e1, rfl⟩ := DI_at e
    rw [List.getElem?_map] at e1
    obtain ⟨p, hp, e3⟩ := Option.map_eq_some_iff.mp e1
    cases e3
    exact ⟨rfl, _, rfl, p.1, rfl, ok.nm p (List.mem_of_getElem? hp), fun H2 s2 => I.step rel_same hD tkBl (by omega) s2 List.replicate_succ' rfl⟩
  intro us H1 h1 s1 p1
  refine ⟨s1 _ _ upd_same, D, List.replicate (DI (ks nu)).length true, rfl, SqL.of (by rw [upd_ne nDn, h1, paired_eq p1]), _, rfl, ?_⟩
  rw [all_rep]
  refine iteF ?_
  have s2 : Same H (upd H1 nd (.dK (DI (ks nu)))) := unlock hn s1
  generalize hH2 : upd H1 nd (.dK (DI (ks nu))) = H2 at *
  refine fun d hd => ⟨_, rfl, x, _, dx, [], rfl, (s2.up hd) _ _ hx, T.kSongs, T.nNumbers, by show 0 < 1000; decide, ?_⟩
  have nxd : x ≠ d := ne_of_none (s2 _ _ hx) hd
  have nnd : nd ≠ d := ne_of_none (s2 _ _ hn) hd
  have nnx : nd ≠ x := fun z => by rw [z, hx] at hn; cases hn
  generalize hH3 : upd (upd H2 d (.dK [])) x (.ins (He.ga K "Songs") dx (putF "s_numbers" (.ref d) [])) = H3 at *
  have hx3 : H3 x = some (.ins (He.ga K "Songs") dx [("s_numbers", .ref d)]) := by rw [← hH3, upd_same]; rfl
  have hd3 : H3 d = some (.dK []) := by rw [← hH3, upd_ne (Ne.symm nxd), upd_same]
  have hn3 : H3 nd = some (.dK (DI (ks nu))) := by rw [← hH3, upd_ne nnx, upd_ne nnd]; exact s2 _ _ hn
  have s3 : ∀ b o, H b = some o → b ≠ x → H3 b = some o := fun b o e nb => by rw [← hH3, upd_ne nb, upd_ne (ne_of_none (s2 _ _ e) hd)]; exact s2 _ _ e
  refine ⟨_, rfl, nd, _, nu.map (·.1), rfl, .inl hn3, by rw [DI_keys]; simp [ks_keys], by rw [List.length_map]; omega, fun ys q py sy hq => ⟨q, rfl, ⟨_, SqL.of upd_same⟩, ?_⟩⟩
  have so := SoOf.mk' ok.nd py sy
  generalize hso : ys.map (fun k => (k, num nu k)) = so' at so
  have ey : ys = so'.map (·.1) := by rw [← hso]; simp [Function.comp_def]
  have lso : so'.length = nu.length := so.perm.length_eq
  have ndso : ((ks so').map (·.1)).Nodup := ks_nodup (ok.perm so.perm).nd
  have ndq : nd ≠ q := ne_of_none hn3 hq
  have nxq : x ≠ q := ne_of_none hx3 hq
  have ndq2 : d ≠ q := ne_of_none hd3 hq
  have h4 : ∀ kvs, (upd (upd H3 q (.lst (ys.map V.str))) d (.dK kvs)) nd = some (.dK (DI (ks nu))) := fun kvs => by rw [upd_ne nnd, upd_ne ndq]; exact hn3
  have h4x : ∀ kvs, (upd (upd H3 q (.lst (ys.map V.str))) d (.dK kvs)) x = some (.ins (He.ga K "Songs") dx [("s_numbers", .ref d)]) := fun kvs => by rw [upd_ne nxd, upd_ne nxq]; exact hx3
  refine for_it (walk_list (xs := ys.map V.str)) (fun i σ H' => ∃ v, σ = [some (.ref x), some (.ref nd), v] ∧ H' = upd (upd H3 q (.lst (ys.map V.str))) d (.dK (DI (ks (so'.take i))))) ⟨none, rfl, ?_⟩ (fun i σ H' _ ⟨_, _, e⟩ => SqL.of (by rw [e, upd_ne (Ne.symm ndq2), upd_same])) ?_ ?_
  · funext b
    by_cases hb : b = d
    · subst hb
      rw [upd_ne ndq2, hd3, upd_same]
      rfl
    · rw [upd_ne hb]
  · rintro i y σ H5 H' hi ⟨v, rfl, rfl⟩ ⟨rfl, e2⟩
    rw [List.getElem?_map, ey, List.getElem?_map, Option.map_map] at e2
    obtain ⟨p, hp, rfl⟩ := Option.map_eq_some_iff.mp e2
    have hpm := so.perm.mem_iff.mp (List.mem_of_getElem? hp)
    have lk : look (ks nu) (.inr p.1) = some p.2 := look_mem ndk (List.mem_map.mpr ⟨p, hpm, rfl⟩)
    have np := ok.np p hpm
    have hi3 : i < nu.length := by rw [← lso]; exact (List.getElem?_eq_some_iff.mp hp).1
    refine ⟨_, rfl, _, rfl, nd, _, rfl, DGet.at1 (k := .inr p.1) (h4 _) lk, p.2, rfl, np.1, _, rfl, iteF ?_⟩
    refine ⟨_, rfl, _, rfl, nd, _, rfl, DGet.at1 (k := .inr p.1) (h4 _) lk, _, rfl, x, _, dx, _, _, rfl, h4x _, T.kSongs, T.nNumbers, rfl, _, rfl, d, _, rfl, DPut.k (k := .inr p.1) upd_same ?_, _, rfl, ?_⟩
    · rw [DI_length, List.length_map, List.length_take, sizeLine_eq]
      omega
    · rw [upd_upd', putDI, take_snoc hp]
      · simp [ks]
      · have e5 : (ks so')[i]? = some (Sum.inr p.1, p.2) := by rw [List.getElem?_map, hp]; rfl
        have := take_keys ndso e5
        rwa [← List.map_take] at this
  · rintro σ H5 ⟨v, rfl, rfl⟩
    have eT : so'.take (ys.map V.str).length = so' := by rw [List.length_map, ey, List.length_map, List.take_length]
    rw [eT]
    refine ⟨_, rfl, x, _, dx, _, _, rfl, h4x _, T.kSongs, T.nNumbers, rfl, d, _, rfl, .inl upd_same, fun p hp => ⟨p, (ks so').map (·.2), rfl, SqL.of (by rw [upd_same, DI_vals]), rfl, _, rfl, ?_⟩⟩
    have hsum : ((ks so').map (·.2)).sum ≠ 0 := by
      have := (ok.perm so.perm).pos
      simpa [ks, Function.comp_def] using this
    refine iteFe (decide_eq_false (fun z => hsum (V.int.inj z))) ?_
    have nxp : x ≠ p := ne_of_none (h4x _) hp
    have ndp : d ≠ p := ne_of_none upd_same hp
    refine h _ so' (fun b o e nb => ?_) so ⟨dx, d, by rw [upd_ne nxp]; exact h4x _, by rw [upd_ne ndp, upd_same]⟩
    have hb3 := s3 b o e nb
    have nbd : b ≠ d := fun z => by
      have h0 : H d = none := s2.free hd
      rw [z, h0] at e
      cases e
    have h5 : (upd (upd H3 q (.lst (ys.map V.str))) d (.dK (DI (ks so')))) b = some o := by
      rw [upd_ne nbd, upd_ne (ne_of_none hb3 hq)]
      exact hb3
    rw [upd_ne (ne_of_none h5 hp)]
    exact h5
end
end U

set_option Elab.async false
set_option linter.all false
set_option maxRecDepth 100000
set_option maxHeartbeats 4000000
/-! The draws. -/
namespace U
open PySem PySem.Spec PyProof.Rows L2
/-- where the draws' dict, its list of large numbers and its cells stand -/
structure Dq where
  d : Addr
  l : Addr
  c : Addr
def drK (l c : Addr) (r t m : Int) : List (Key × V) := [(.inr "large", .ref l), (.inr "cells", .ref c), (.inr "rest", .int r), (.inr "turn", .int t), (.inr "mix", .int m)]
def DrAt (H : Hp) (q : Dq) : Prop := ∃ (lg cs : List Int) (r t m : Int), H q.d = some (.dK (drK q.l q.c r t m)) ∧ H q.l = some (.lst (lg.map V.int)) ∧ H q.c = some (.lst (cs.map V.int)) ∧ 0 ≤ r ∧ 0 ≤ m ∧ m < 2147483629 ∧ (∀ x ∈ lg, 0 ≤ x) ∧ cs.length ≤ 63 ∧ q.c ≠ q.l
structure Sm (q : Dq) (H H' : Hp) : Prop where
  d1 : DrAt H q
  d2 : DrAt H' q
  kp : ∀ b o, H b = some o → b ≠ q.d → b ≠ q.l → H' b = some o
theorem DrAt.keep {H H' : Hp} {q : Dq} (h : DrAt H q) (k : ∀ b o, H b = some o → b = q.d ∨ b = q.l ∨ b = q.c → H' b = some o) : DrAt H' q := by
  obtain ⟨lg, cs, r, t, m, h1, h2, h3, h4⟩ := h
  exact ⟨lg, cs, r, t, m, k _ _ h1 (.inl rfl), k _ _ h2 (.inr (.inl rfl)), k _ _ h3 (.inr (.inr rfl)), h4⟩
theorem DrAt.sm {H H' : Hp} {q : Dq} (h : DrAt H q) (s : Same H H') : Sm q H H' := ⟨h, h.keep fun b o e _ => s b o e, fun b o e _ _ => s b o e⟩
theorem Sm.ne {q : Dq} {H H' : Hp} (s : Sm q H H') {D : Addr} (h : H D = none) : D ≠ q.d ∧ D ≠ q.l := by
  obtain ⟨lg, cs, r, t, m, h1, h2, _⟩ := s.d1
  exact ⟨fun z => by rw [z, h1] at h; (cases h), fun z => by rw [z, h2] at h; (cases h)⟩
theorem Sm.trans {q : Dq} {a b c : Hp} (s : Sm q a b) (t : Sm q b c) : Sm q a c := ⟨s.d1, t.d2, fun x o e h1 h2 => t.kp x o (s.kp x o e h1 h2) h1 h2⟩
theorem Sm.tk {q : Dq} {a b : Hp} (s : Sm q a b) : Tk a b := fun x xs e => by
  obtain ⟨lg, cs, r, t, m, h1, h2, _⟩ := s.d1
  exact s.kp x _ e (fun z => by rw [z, h1] at e; (cases e)) (fun z => by rw [z, h2] at e; (cases e))
theorem Sm.free {q : Dq} {a b : Hp} (s : Sm q a b) {x : Addr} (h : b x = none) : a x = none := by
  cases e : a x with
  | none => rfl
  | some o =>
    obtain ⟨lg, cs, r, t, m, h1, h2, _⟩ := s.d2
    have := s.kp x o e (fun z => by rw [z, h1] at h; cases h) (fun z => by rw [z, h2] at h; cases h)
    rw [this] at h
    cases h
theorem Sm.new {q : Dq} {a b : Hp} (s : Sm q a b) {D : Addr} {o : HO} (h : a D = none) : Sm q a (upd b D o) := by
  obtain ⟨lg, cs, r, t, m, h1, h2, h3, _⟩ := s.d1
  have n1 : D ≠ q.d := fun z => by rw [z, h1] at h; cases h
  have n2 : D ≠ q.l := fun z => by rw [z, h2] at h; cases h
  have n3 : D ≠ q.c := fun z => by rw [z, h3] at h; cases h
  refine ⟨s.d1, s.d2.keep fun x u e hx => ?_, fun x u e k1 k2 => ?_⟩
  · rw [upd_ne (by rcases hx with rfl | rfl | rfl; exact Ne.symm n1; exact Ne.symm n2; exact Ne.symm n3)]
    exact e
  · rw [upd_ne (ne_of_none e h)]
    exact s.kp x u e k1 k2
theorem Sm.up {q : Dq} {a b : Hp} (s : Sm q a b) {D : Addr} {o : HO} (h : b D = none) : Sm q a (upd b D o) := s.new (s.free h)
theorem rel_sm (q : Dq) : Rel (Sm q) := ⟨Sm.trans, Sm.tk, fun s h => s.new h, fun s h e t => t.kp _ _ e (s.ne h).1 (s.ne h).2⟩
theorem Sm.same {q : Dq} {a b c : Hp} (s : Sm q a b) (t : Same b c) : Sm q a c := s.trans (s.d2.sm t)
theorem ints_dp {K : PySem.W.Frag} {H : Hp} : ∀ ns : List Int, DpAll K H (ns.map V.int) (ns.map PyData.int)
  | [] => .nil
  | n :: r => .cons (.int n) (ints_dp r)
theorem ints_plain : ∀ ns : List Int, PyData.plainAll (ns.map PyData.int) = true
  | [] => by simp [PyData.plainAll]
  | n :: r => by simp [PyData.plainAll, PyData.plain, ints_plain r]
theorem ints_depth : ∀ ns : List Int, PyData.depthAll (ns.map PyData.int) ≤ 0
  | [] => by simp [PyData.depthAll]
  | n :: r => by
    have := ints_depth r
    simp only [List.map_cons, PyData.depthAll, PyData.depth]
    omega
theorem eqv_nil (xs : List PyData) : PyData.eqv (.list xs) (.list []) = xs.isEmpty := by
  cases xs with
  | nil => simp [PyData.eqv, PyData.eqvAll]
  | cons a r => simp [PyData.eqv, PyData.eqvAll]
theorem plain_list {xs : List PyData} (h : PyData.plainAll xs = true) : PyData.plain (.list xs) = true := by simp only [PyData.plain, h]
theorem depth_list {xs : List PyData} {n : Nat} (h : PyData.depthAll xs ≤ n) : PyData.depth (.list xs) ≤ n + 1 := by
  simp only [PyData.depth]
  omega
theorem upd_id {H : Hp} {a : Addr} {o : HO} (h : H a = some o) : H = upd H a o := by
  funext b
  by_cases q : b = a
  · rw [q, upd_same, h]
  · rw [upd_ne q]
theorem nil_plain : PyData.plain (.list []) = true := plain_list (by simp [PyData.plainAll])
section
variable {P : Program} {w : World} {K : PySem.W.Frag} {mg : Str → Option Value} {base : Heap}
def pr_take : Pr := fun vs H Q => ∃ (q : Dq) (n : Int), vs = [.ref q.d, .int n] ∧ DrAt H q ∧ 0 < n ∧ n < 1000000 ∧ ∀ k H', Sm q H H' → 0 ≤ k → k < n → Q (.int k) H'
theorem sc_l_take : FnScope ["_law_draw", "_law_size", "_law_cell", "_law_found"] ["_law_draw", "_law_size"] (defScope s_l_take) := ⟨rfl, rfl, rfl, by decide +kernel, rfl, by decide +kernel, by decide +kernel⟩
theorem ok_l_take (T : T K mg) : Ok P w K mg base 1 (He.ga K "_law_take") pr_take := by
  refine Dn.ok T.l_take sc_l_take (fun _ _ _ _ _ _ us hl => match us, hl with | [_, _], _ => rfl) (fun vs H Q h => ?_) fun cdv A outer s H vs Q E hr h => ?_
  · obtain ⟨_, _, rfl, _⟩ := h
    rfl
  obtain ⟨⟨d, l, c⟩, n, rfl, DR, n0, n1, h⟩ := h
  obtain ⟨lg, cs, r, t, m, hd, hl, hc, r0, m0, m1, lgp, lgn, ncl⟩ := id DR
  simp only at hd hl hc h ncl
  have nld : l ≠ d := fun z => by rw [z, hd] at hl; cases hl
  have ncd : c ≠ d := fun z => by rw [z, hd] at hc; cases hc
  refine ⟨_, (pss_cons (ps_if (PW.pt (pw_and (pt_cmpR op_eq (pe_dget (hu_of hr) (pv 0) pe_str (fun _ _ => rfl)) pe_int (nomark _)) (pw_and1 (pt_cmpR (op_neP (K := K) rfl (by exact hr.units)) (pe_dget (hu_of hr) (pv 0) pe_str (fun _ _ => rfl)) (pe_lst pa_nil) (nomark _))))) (pss_one (ps_dput (hu_of hr) (pv 0) pe_str (pe_bm PySem.F.plainAttrs_list PySem.F.slot_list_pop PySem.F.type_list_pop mt_popAt (pe_dget (hu_of hr) (pv 0) pe_str (fun _ _ => rfl)) (pa_cons pe_int pa_nil)) rfl)) (pss_one (ps_if (pt_cmpR op_eq (pe_dget (hu_of hr) (pv 0) pe_str (fun _ _ => rfl)) pe_int (nomark _)) (pss_cons (ps_dput (hu_of hr) (pv 0) pe_str (pe_op op_add (pe_dget (hu_of hr) (pv 0) pe_str (fun _ _ => rfl)) pe_int) rfl) (pss_cons (ps_for PassesOwn.never rfl (piL (K := K) rfl (pe_op op_cat (pe_lst (pa_cons (pe_dget (hu_of hr) (pv 0) pe_str (fun _ _ => rfl)) pa_nil)) (pe_dget (hu_of hr) (pv 0) pe_str (fun _ _ => rfl)))) (pg_name (i := 2) sc_l_take.nd rfl (by first | exact .inl rfl | exact .inr rfl)) (pss_one (ps_dput (hu_of hr) (pv 0) pe_str (pe_op op_mod (pe_callTy call_int1 rfl T.z_int b_int (pa_cons (pe_op op_add (pe_op op_add (pe_op op_mul (pe_dget (hu_of hr) (pv 0) pe_str (fun _ _ => rfl)) pe_int) (pe_op op_mul (pv 2) pe_int)) pe_int) pa_nil)) pe_int) rfl))) (pss_one (ps_dput (hu_of hr) (pv 0) pe_str (pe_op op_mod (pe_callTy call_int1 rfl T.z_int b_int (pa_cons (pe_op op_pow (pe_dget (hu_of hr) (pv 0) pe_str (fun _ _ => rfl)) pe_int) pa_nil)) pe_int) rfl)))) pss_nil))) (pss_cons (ps_asg (pe_callB call_divmod rfl T.z_divmod b_divmod (pa_cons (pe_dget (hu_of hr) (pv 0) pe_str (fun _ _ => rfl)) (pa_cons (pv 1) pa_nil))) (pg_tup rfl (pgs_cons (pg_sub (pv 0) pe_str (set_dict (hu_of hr))) (pgs_cons (pg_name (i := 3) sc_l_take.nd rfl (by first | exact .inl rfl | exact .inr rfl)) pgs_nil)))) (pss_one (ps_ret (pv 3))))), ?_⟩
  refine ⟨_, rfl, d, _, rfl, DGet.k (k := .inr "rest") hd, rfl, _, rfl, ?_⟩
  have cl : ∀ x : Int, PyData.eqv (.list (lg.map PyData.int)) (.list []) = lg.isEmpty := fun _ => by rw [eqv_nil]; cases lg <;> rfl
  by_cases hr0 : r = 0
  · refine iteTe (by simpa using hr0) ⟨_, rfl, d, _, rfl, DGet.k (k := .inr "large") hd, Nat.zero_le _, fun e he => ?_⟩
    have hd2 : (upd H e (.lst [])) d = some (.dK (drK l c r t m)) := (sms H).up he _ _ hd
    have hl2 : (upd H e (.lst [])) l = some (.lst (lg.map V.int)) := (sms H).up he _ _ hl
    have hc2 : (upd H e (.lst [])) c = some (.lst (cs.map V.int)) := (sms H).up he _ _ hc
    refine ⟨_, _, .lst (SqL.of hl2) (ints_dp lg), .lst (SqL.of upd_same) .nil, plain_list (ints_plain lg), nil_plain, Nat.le_trans (depth_list (ints_depth lg)) (by decide), _, rfl, ?_⟩
    have s2 := (sms H).up he (o := .lst [])
    generalize hH2 : upd H e (.lst []) = H2 at *
    cases lg with
    | cons x lg' =>
      refine iteTe (by rw [eqv_nil]; rfl) ?_
      refine ⟨_, rfl, d, _, rfl, DGet.k (k := .inr "large") hd2, .inl ⟨rfl, _, SqL.of hl2⟩, l, _, 0, 0, .int x, rfl, rfl, hl2, by decide, by decide, by simp [seqIndex?], rfl, _, rfl, d, _, rfl, DPut.k (k := .inr "rest") (kvs := drK l c r t m) (by rw [upd_ne (Ne.symm nld)]; exact hd2) (by show 5 < sizeLine; decide), ?_⟩
      have HD' : (upd (upd H2 l (.lst (((x :: lg').map V.int).eraseIdx 0))) d (.dK (putK (drK l c r t m) (.inr "rest") (.int x)))) d = some (.dK (drK l c x t m)) := by rw [upd_same]; rfl
      have HL' : (upd (upd H2 l (.lst (((x :: lg').map V.int).eraseIdx 0))) d (.dK (putK (drK l c r t m) (.inr "rest") (.int x)))) l = some (.lst (lg'.map V.int)) := by rw [upd_ne nld, upd_same]; rfl
      have HK' : ∀ b o, H b = some o → b ≠ d → b ≠ l → (upd (upd H2 l (.lst (((x :: lg').map V.int).eraseIdx 0))) d (.dK (putK (drK l c r t m) (.inr "rest") (.int x)))) b = some o := fun b o e b1 b2 => by rw [upd_ne b1, upd_ne b2]; exact s2 _ _ e
      have HC' : (upd (upd H2 l (.lst (((x :: lg').map V.int).eraseIdx 0))) d (.dK (putK (drK l c r t m) (.inr "rest") (.int x)))) c = some (.lst (cs.map V.int)) := by rw [upd_ne ncd, upd_ne ncl]; exact hc2
      generalize hH3 : upd (upd H2 l (.lst (((x :: lg').map V.int).eraseIdx 0))) d (.dK (putK (drK l c r t m) (.inr "rest") (.int x))) = H3 at *

      refine ⟨_, rfl, d, _, rfl, DGet.k (k := .inr "rest") HD', _, rfl, _, n, rfl, ⟨by omega, by omega⟩, fun p hp => ⟨p, _, rfl, SqT.of upd_same, rfl, _, _, rfl, ?_⟩⟩
      have npd : p ≠ d := (ne_of_none HD' hp).symm
      refine ⟨_, rfl, d, _, rfl, DPut.k (k := .inr "rest") (kvs := drK l c x t m) (by rw [upd_ne (Ne.symm npd)]; exact HD') (by show 5 < sizeLine; decide), _, _, rfl, rfl, _, rfl, ?_⟩
      have npl : p ≠ l := (ne_of_none HL' hp).symm
      have npc : p ≠ c := (ne_of_none HC' hp).symm
      refine h _ _ ⟨DR, ⟨_, _, x / n, t, m, by rw [upd_same]; rfl, by rw [upd_ne nld, upd_ne (Ne.symm npl)]; exact HL', by rw [upd_ne ncd, upd_ne (Ne.symm npc)]; exact HC', Int.ediv_nonneg (lgp x (by simp)) (by omega), m0, m1, (fun y hy => lgp y (by simp [hy])), lgn, ncl⟩, fun b o e b1 b2 => ?_⟩ (Int.emod_nonneg _ (by omega)) (Int.emod_lt_of_pos _ (by omega))
      rw [upd_ne b1, upd_ne (ne_of_none ((HK' b o e b1 b2)) hp)]
      exact (HK' b o e b1 b2)
    
    | nil =>
      refine iteFe (by rw [eqv_nil]; rfl) ?_
      refine ⟨_, rfl, d, _, rfl, DGet.k (k := .inr "rest") hd2, rfl, _, rfl, iteTe (by simpa using hr0) ?_⟩
      refine ⟨_, rfl, d, _, rfl, DGet.k (k := .inr "turn") hd2, _, _, rfl, rfl, _, rfl, d, _, rfl, DPut.k (k := .inr "turn") (kvs := drK l c r t m) hd2 (by show 5 < sizeLine; decide), ?_⟩
      have hd3 : (upd H2 d (.dK (putK (drK l c r t m) (.inr "turn") (.int (t + 1))))) d = some (.dK (drK l c r (t + 1) m)) := by rw [upd_same]; rfl
      have hl3 : (upd H2 d (.dK (putK (drK l c r t m) (.inr "turn") (.int (t + 1))))) l = some (.lst ([].map V.int)) := by rw [upd_ne nld]; exact hl2
      have hc3 : (upd H2 d (.dK (putK (drK l c r t m) (.inr "turn") (.int (t + 1))))) c = some (.lst (cs.map V.int)) := by rw [upd_ne ncd]; exact hc2
      have hk3 : ∀ b o, H b = some o → b ≠ d → b ≠ l → (upd H2 d (.dK (putK (drK l c r t m) (.inr "turn") (.int (t + 1))))) b = some o := fun b o e b1 b2 => by rw [upd_ne b1]; exact s2 _ _ e
      refine ⟨_, rfl, d, _, rfl, DGet.k (k := .inr "turn") hd3, by show 1 ≤ sizeLine; decide, fun a1 ha1 => ?_⟩
      refine ⟨_, rfl, d, _, rfl, DGet.k (k := .inr "cells") ((sms (upd H2 d (.dK (putK (drK l c r t m) (.inr "turn") (.int (t + 1)))))).up ha1 _ _ hd3), a1, c, _, _, rfl, rfl, upd_same, (sms (upd H2 d (.dK (putK (drK l c r t m) (.inr "turn") (.int (t + 1)))))).up ha1 _ _ hc3, ?_, fun a2 ha2 => ?_⟩
      · show 1 + (cs.map V.int).length ≤ sizeLine
        rw [List.length_map, sizeLine_eq]; omega
      have s4 := ((sms (upd H2 d (.dK (putK (drK l c r t m) (.inr "turn") (.int (t + 1)))))).up ha1 (o := .lst [.int (t + 1)])).up ha2 (o := .lst ([.int (t + 1)] ++ cs.map V.int))
      have hd4 := s4 _ _ hd3
      have hl4 := s4 _ _ hl3
      have hc4 := s4 _ _ hc3
      have hk4 : ∀ b o, H b = some o → b ≠ d → b ≠ l → (upd (upd (upd H2 d (.dK (putK (drK l c r t m) (.inr "turn") (.int (t + 1))))) a1 (.lst [.int (t + 1)])) a2 (.lst ([.int (t + 1)] ++ cs.map V.int))) b = some o := fun b o e b1 b2 => s4 _ _ (hk3 b o e b1 b2)
      have ha4 : (upd (upd (upd H2 d (.dK (putK (drK l c r t m) (.inr "turn") (.int (t + 1))))) a1 (.lst [.int (t + 1)])) a2 (.lst ([.int (t + 1)] ++ cs.map V.int))) a2 = some (.lst (((t + 1) :: cs).map V.int)) := by rw [upd_same]; rfl
      have nad : a2 ≠ d := ne_of ha4 hd4 (by intro z; cases z)
      refine ⟨a2, rfl, ⟨_, SqL.of ha4⟩, for_it (walk_list (xs := ((t + 1) :: cs).map V.int)) (fun i σ H' => ∃ v m', σ = [some (.ref d), some (.int n), v, none] ∧ H' = upd (upd (upd (upd H2 d (.dK (putK (drK l c r t m) (.inr "turn") (.int (t + 1))))) a1 (.lst [.int (t + 1)])) a2 (.lst ([.int (t + 1)] ++ cs.map V.int))) d (.dK (drK l c r (t + 1) m')) ∧ 0 ≤ m' ∧ m' < 2147483629) ⟨none, m, rfl, ?_, m0, m1⟩ (fun i σ H' _ ⟨_, _, _, e, _⟩ => SqL.of (by rw [e, upd_ne nad]; exact ha4)) ?_ ?_⟩
      · exact upd_id hd4
      · rintro i y σ H5 H' hi ⟨v, m', rfl, rfl, k0, k1⟩ ⟨rfl, e2⟩
        rw [List.getElem?_map] at e2
        obtain ⟨cell, _, rfl⟩ := Option.map_eq_some_iff.mp e2
        refine ⟨_, rfl, d, _, rfl, DGet.k (k := .inr "mix") (kvs := drK l c r (t + 1) m') upd_same, _, _, rfl, rfl, .inr ⟨by decide, by decide⟩, _, rfl, _, _, rfl, rfl, .inr ⟨by decide, by decide⟩, _, _, rfl, rfl, _, _, rfl, rfl, .inl ⟨_, rfl, _, _, rfl, rfl, by show (0 : Int) < 2147483629; decide, _, rfl, d, _, rfl, DPut.k (k := .inr "mix") (kvs := drK l c r (t + 1) m') upd_same (by show 5 < sizeLine; decide), ?_⟩⟩
        exact ⟨_, (m' * 69621 + cell * 48271 + 12345) % 2147483629, rfl, by rw [upd_upd']; rfl, Int.emod_nonneg _ (by decide), Int.emod_lt_of_pos _ (by decide)⟩
      · rintro σ H5 ⟨v, m', rfl, rfl, k0, k1⟩
        refine ⟨_, rfl, d, _, rfl, DGet.k (k := .inr "mix") (kvs := drK l c r (t + 1) m') upd_same, _, _, rfl, rfl, ⟨by decide, by decide, by omega⟩, .inl ⟨_, rfl, _, _, rfl, rfl, by show (0 : Int) < 2305843009213693951; decide, _, rfl, d, _, rfl, DPut.k (k := .inr "rest") (kvs := drK l c r (t + 1) m') upd_same (by show 5 < sizeLine; decide), ?_⟩⟩
        have HD' : (upd (upd (upd (upd (upd H2 d (.dK (putK (drK l c r t m) (.inr "turn") (.int (t + 1))))) a1 (.lst [.int (t + 1)])) a2 (.lst ([.int (t + 1)] ++ cs.map V.int))) d (.dK (drK l c r (t + 1) m'))) d (.dK (putK (drK l c r (t + 1) m') (.inr "rest") (.int (m' ^ 5 % 2305843009213693951))))) d = some (.dK (drK l c (m' ^ 5 % 2305843009213693951) (t + 1) m')) := by rw [upd_same]; rfl
        have HL' : (upd (upd (upd (upd (upd H2 d (.dK (putK (drK l c r t m) (.inr "turn") (.int (t + 1))))) a1 (.lst [.int (t + 1)])) a2 (.lst ([.int (t + 1)] ++ cs.map V.int))) d (.dK (drK l c r (t + 1) m'))) d (.dK (putK (drK l c r (t + 1) m') (.inr "rest") (.int (m' ^ 5 % 2305843009213693951))))) l = some (.lst ([].map V.int)) := by rw [upd_ne nld, upd_ne nld]; exact hl4
        have HC' : (upd (upd (upd (upd (upd H2 d (.dK (putK (drK l c r t m) (.inr "turn") (.int (t + 1))))) a1 (.lst [.int (t + 1)])) a2 (.lst ([.int (t + 1)] ++ cs.map V.int))) d (.dK (drK l c r (t + 1) m'))) d (.dK (putK (drK l c r (t + 1) m') (.inr "rest") (.int (m' ^ 5 % 2305843009213693951))))) c = some (.lst (cs.map V.int)) := by rw [upd_ne ncd, upd_ne ncd]; exact hc4
        have HK' : ∀ b o, H b = some o → b ≠ d → b ≠ l → (upd (upd (upd (upd (upd H2 d (.dK (putK (drK l c r t m) (.inr "turn") (.int (t + 1))))) a1 (.lst [.int (t + 1)])) a2 (.lst ([.int (t + 1)] ++ cs.map V.int))) d (.dK (drK l c r (t + 1) m'))) d (.dK (putK (drK l c r (t + 1) m') (.inr "rest") (.int (m' ^ 5 % 2305843009213693951))))) b = some o := fun b o e b1 b2 => by rw [upd_ne b1, upd_ne b1]; exact hk4 b o e b1 b2

        refine ⟨_, rfl, d, _, rfl, DGet.k (k := .inr "rest") HD', _, rfl, _, n, rfl, ⟨by omega, by omega⟩, fun p hp => ⟨p, _, rfl, SqT.of upd_same, rfl, _, _, rfl, ?_⟩⟩
        have npd : p ≠ d := (ne_of_none HD' hp).symm
        refine ⟨_, rfl, d, _, rfl, DPut.k (k := .inr "rest") (kvs := drK l c (m' ^ 5 % 2305843009213693951) (t + 1) m') (by rw [upd_ne (Ne.symm npd)]; exact HD') (by show 5 < sizeLine; decide), _, _, rfl, rfl, _, rfl, ?_⟩
        have npl : p ≠ l := (ne_of_none HL' hp).symm
        have npc : p ≠ c := (ne_of_none HC' hp).symm
        refine h _ _ ⟨DR, ⟨_, _, (m' ^ 5 % 2305843009213693951) / n, (t + 1), m', by rw [upd_same]; rfl, by rw [upd_ne nld, upd_ne (Ne.symm npl)]; exact HL', by rw [upd_ne ncd, upd_ne (Ne.symm npc)]; exact HC', Int.ediv_nonneg (Int.emod_nonneg _ (by decide)) (by omega), k0, k1, (fun y hy => by cases hy), lgn, ncl⟩, fun b o e b1 b2 => ?_⟩ (Int.emod_nonneg _ (by omega)) (Int.emod_lt_of_pos _ (by omega))
        rw [upd_ne b1, upd_ne (ne_of_none ((HK' b o e b1 b2)) hp)]
        exact (HK' b o e b1 b2)
      
  · refine iteFe (by simpa using hr0) ?_
    refine iteF ?_
    refine ⟨_, rfl, d, _, rfl, DGet.k (k := .inr "rest") hd, rfl, _, rfl, iteFe (by simpa using hr0) ?_⟩
    have HK' : ∀ b o, H b = some o → b ≠ d → b ≠ l → H b = some o := fun b o e _ _ => e

    refine ⟨_, rfl, d, _, rfl, DGet.k (k := .inr "rest") hd, _, rfl, _, n, rfl, ⟨by omega, by omega⟩, fun p hp => ⟨p, _, rfl, SqT.of upd_same, rfl, _, _, rfl, ?_⟩⟩
    have npd : p ≠ d := (ne_of_none hd hp).symm
    refine ⟨_, rfl, d, _, rfl, DPut.k (k := .inr "rest") (kvs := drK l c r t m) (by rw [upd_ne (Ne.symm npd)]; exact hd) (by show 5 < sizeLine; decide), _, _, rfl, rfl, _, rfl, ?_⟩
    have npl : p ≠ l := (ne_of_none hl hp).symm
    have npc : p ≠ c := (ne_of_none hc hp).symm
    refine h _ _ ⟨DR, ⟨_, _, r / n, t, m, by rw [upd_same]; rfl, by rw [upd_ne nld, upd_ne (Ne.symm npl)]; exact hl, by rw [upd_ne ncd, upd_ne (Ne.symm npc)]; exact hc, Int.ediv_nonneg r0 (by omega), m0, m1, lgp, lgn, ncl⟩, fun b o e b1 b2 => ?_⟩ (Int.emod_nonneg _ (by omega)) (Int.emod_lt_of_pos _ (by omega))
    rw [upd_ne b1, upd_ne (ne_of_none ((HK' b o e b1 b2)) hp)]
    exact (HK' b o e b1 b2)
  
end
end U

set_option Elab.async false
set_option linter.all false
set_option maxRecDepth 100000
set_option maxHeartbeats 4000000
/-! What is drawn: picks, names. -/
namespace U
open PySem PySem.Spec PyProof.Rows L2
theorem Sm.ne2 {q : Dq} {H H' : Hp} (s : Sm q H H') {D : Addr} (h : H' D = none) : D ≠ q.d ∧ D ≠ q.l := s.ne (s.free h)
theorem DrAt.ne {q : Dq} {H : Hp} (s : DrAt H q) {D : Addr} (h : H D = none) : D ≠ q.d ∧ D ≠ q.l := (s.sm (sms H)).ne h
theorem DrAt.lstd {q : Dq} {H : Hp} (s : DrAt H q) {D : Addr} {xs : List V} (h : H D = some (.lst xs)) : D ≠ q.d := by
  obtain ⟨lg, cs, r, t, m, h1, _⟩ := s
  intro z
  rw [z, h1] at h
  cases h
/-! names near a name -/
theorem cut7_toList (z : Str) : (cutS z none (some 7)).cps.toList = z.cps.toList.take 7 := by
  unfold cutS
  rw [sIx_hi (by decide)]
  show ((z.cps.toList.drop 0).take (min 7 z.length - 0)).toArray.toList = _
  rw [List.drop_zero, Nat.sub_zero, List.toList_toArray]
  have hl : z.cps.toList.length = z.length := by simp [Str.length]
  by_cases h : 7 ≤ z.length
  · rw [Nat.min_eq_left h]
  · rw [Nat.min_eq_right (by omega), List.take_of_length_le (by omega), List.take_of_length_le (by omega)]
theorem cut7_len (z : Str) : (cutS z none (some 7)).length ≤ 7 := by
  have h : (cutS z none (some 7)).length = (cutS z none (some 7)).cps.toList.length := by simp [Str.length]
  rw [h, cut7_toList, List.length_take]
  omega
def nears (z : Str) : List Str := z :: letters.cps.toList.map fun c => cutS z none (some 7) ++ ⟨#[c]⟩
theorem app_toList (a b : Str) : (a ++ b).cps.toList = a.cps.toList ++ b.cps.toList := by
  show (a.cps ++ b.cps).toList = _
  simp
theorem near_ok {z : Str} (h : NameOk z) : ∀ y ∈ nears z, NameOk y := by
  intro y hy
  rcases List.mem_cons.mp hy with e | e
  · rw [e]; exact h
  · obtain ⟨c, hc, rfl⟩ := List.mem_map.mp e
    have l1 : (cutS z none (some 7) ++ (⟨#[c]⟩ : Str)).length = (cutS z none (some 7)).length + 1 := by
      have e1 : ∀ s : Str, s.length = s.cps.toList.length := fun s => by simp [Str.length]
      rw [e1, app_toList, List.length_append, e1]
      rfl
    have := cut7_len z
    refine ⟨by omega, by omega, fun k hk => ?_⟩
    rw [app_toList, cut7_toList] at hk
    rcases List.mem_append.mp hk with hk | hk
    · exact h.2.2 k (List.mem_of_mem_take hk)
    · simp at hk
      rw [hk]; exact hc
theorem near_new {z : Str} (h : NameOk z) {ys : List Str} (hl : ys.length ≤ 2) : ∃ y rest, ((nears z).filter fun y => decide (y ∉ ys)) = y :: rest ∧ y ∉ ys ∧ NameOk y := by
  cases e : (nears z).filter fun y => decide (y ∉ ys) with
  | cons y rest =>
    have hy : y ∈ (nears z).filter fun y => decide (y ∉ ys) := by rw [e]; simp
    obtain ⟨h1, h2⟩ := List.mem_filter.mp hy
    exact ⟨y, rest, rfl, by simpa using h2, near_ok h y h1⟩
  | nil =>
    exfalso
    have all : ∀ y ∈ nears z, y ∈ ys := fun y hy => by
      apply Classical.byContradiction
      intro hn
      have : y ∈ (nears z).filter fun y => decide (y ∉ ys) := List.mem_filter.mpr ⟨hy, by simpa using hn⟩
      rw [e] at this
      cases this
    have mem : ∀ c, c ∈ letters.cps.toList → (cutS z none (some 7) ++ (⟨#[c]⟩ : Str)) ∈ ys := fun c hc => all _ (List.mem_cons_of_mem _ (List.mem_map.mpr ⟨c, hc, rfl⟩))
    have inj : ∀ c d : Nat, (cutS z none (some 7) ++ (⟨#[c]⟩ : Str)) = (cutS z none (some 7) ++ (⟨#[d]⟩ : Str)) → c = d := fun c d he => by
      have := congrArg (fun s : Str => s.cps.toList) he
      simp only [app_toList] at this
      have := List.append_cancel_left this
      simpa using this
    have nd : [cutS z none (some 7) ++ (⟨#[97]⟩ : Str), cutS z none (some 7) ++ (⟨#[98]⟩ : Str), cutS z none (some 7) ++ (⟨#[99]⟩ : Str)].Nodup := by
      simp only [List.nodup_cons, List.mem_cons, List.not_mem_nil, or_false, not_or, not_false_eq_true, List.nodup_nil, and_true]
      exact ⟨⟨fun he => absurd (inj _ _ he) (by decide), fun he => absurd (inj _ _ he) (by decide)⟩, fun he => absurd (inj _ _ he) (by decide)⟩
    have := nodup_sub nd (u := ys) fun y hy => by
      simp only [List.mem_cons, List.not_mem_nil, or_false] at hy
      rcases hy with rfl | rfl | rfl
      · exact mem 97 (by decide +kernel)
      · exact mem 98 (by decide +kernel)
      · exact mem 99 (by decide +kernel)
    simp at this
    omega
/-! one-sign texts joined -/
theorem glue_cps : ∀ (rest : List Nat) (acc : Array Nat), ((rest.map fun c => (⟨#[c]⟩ : Str)).foldl (fun acc p => acc ++ (Str.empty : Str).cps ++ p.cps) acc).toList = acc.toList ++ rest
  | [], acc => by simp
  | c :: r, acc => by
    rw [List.map_cons, List.foldl_cons, glue_cps r]
    simp [Str.empty]
theorem pool_ok : ∀ z ∈ (["a", "b", "ab", "kind", "song", "play", "pop", "zzzzzzzz"] : List Str), 1 ≤ z.length ∧ z.length ≤ 8 ∧ ∀ c ∈ z.cps.toList, c ∈ letters.cps.toList := by decide +kernel
def poolV : List V := [.str "a", .str "b", .str "ab", .str "kind", .str "song", .str "play", .str "pop", .str "zzzzzzzz"]
theorem pool_v {v : V} (h : v ∈ poolV) : ∃ z, v = .str z ∧ NameOk z := by
  have e : poolV = (["a", "b", "ab", "kind", "song", "play", "pop", "zzzzzzzz"] : List Str).map V.str := rfl
  rw [e] at h
  obtain ⟨z, hz, rfl⟩ := List.mem_map.mp h
  exact ⟨z, rfl, pool_ok z hz⟩
theorem map_erase {α β : Type} (f : α → β) : ∀ (l : List α) (k : Nat), (l.map f).eraseIdx k = (l.eraseIdx k).map f
  | [], _ => rfl
  | _ :: _, 0 => rfl
  | a :: r, k + 1 => by rw [List.map_cons, List.eraseIdx_cons_succ, List.eraseIdx_cons_succ, map_erase f r k]; rfl
theorem paired_erase {α β : Type} {R : α → β → Prop} : ∀ (k : Nat) {xs : List α} {ys : List β}, Paired R xs ys → Paired R (xs.eraseIdx k) (ys.eraseIdx k)
  | _, _, _, .nil => .nil
  | 0, _, _, .cons _ t => t
  | k + 1, _, _, .cons h t => .cons h (paired_erase k t)
section
variable {P : Program} {w : World} {K : PySem.W.Frag} {mg : Str → Option Value} {base : Heap}
def pr_pick : Pr := fun vs H Q => ∃ q : Dq, DrAt H q ∧ ((∃ a xs, vs = [.ref q.d, .ref a] ∧ H a = some (.lst xs) ∧ a ≠ q.l ∧ 0 < xs.length ∧ xs.length < 1000 ∧ ∀ v H', Sm q H H' → v ∈ xs → Q v H') ∨
  (∃ z : Str, vs = [.ref q.d, .str z] ∧ 0 < z.length ∧ z.length < 1000 ∧ ∀ c H', Sm q H H' → c ∈ z.cps.toList → Q (.str ⟨#[c]⟩) H'))
theorem sc_l_pick : FnScope ["_law_draw", "_law_some"] ["_law_draw", "_law_some"] (defScope s_l_pick) := ⟨rfl, rfl, rfl, by decide +kernel, rfl, by decide +kernel, by decide +kernel⟩
theorem ok_l_pick (T : T K mg) : Ok P w K mg base 2 (He.ga K "_law_pick") pr_pick := by
  refine Dn.ok T.l_pick sc_l_pick (fun _ _ _ _ _ _ us hl => match us, hl with | [_, _], _ => rfl) (fun vs H Q h => ?_) fun cdv A outer s H vs Q E hr h => ?_
  · obtain ⟨_, _, ⟨_, _, rfl, _⟩ | ⟨_, rfl, _⟩⟩ := h <;> rfl
  obtain ⟨q, D, ⟨a, xs, rfl, ha, nal, h0, h1, h⟩ | ⟨z, rfl, h0, h1, h⟩⟩ := h
  · refine ⟨_, (pss_one (ps_ret (pe_ix (ixQ (K := K) rfl) (pv 1) (pe_cal (ok_l_take T) (hr.mono (by decide)) rfl T.l_take (pa_cons (pv 0) (pa_cons (pe_callB (lenK (K := K) rfl) rfl T.z_len b_len (pa_cons (pv 1) pa_nil)) pa_nil))) (fun _ _ => rfl)))), ?_⟩
    refine ⟨_, rfl, _, rfl, _, rfl, _, xs.length, rfl, .inl ⟨xs, SqL.of ha, rfl⟩, q, xs.length, rfl, D, by omega, by omega, fun k H1 s1 k0 k1 => ?_⟩
    have hk : k.toNat < xs.length := by omega
    exact .inl ⟨a, xs, k, xs[k.toNat], rfl, rfl, SqL.of (s1.kp _ _ ha (D.lstd ha) nal), atI_get (List.getElem?_eq_getElem hk) (Int.toNat_of_nonneg k0).symm, h _ H1 s1 (List.getElem_mem hk)⟩
  · refine ⟨_, (pss_one (ps_ret (pe_ix (ixQ (K := K) rfl) (pv 1) (pe_cal (ok_l_take T) (hr.mono (by decide)) rfl T.l_take (pa_cons (pv 0) (pa_cons (pe_callB (lenK (K := K) rfl) rfl T.z_len b_len (pa_cons (pv 1) pa_nil)) pa_nil))) (fun _ _ => rfl)))), ?_⟩
    have hz : z.length ≤ sizeLine := by rw [sizeLine_eq]; omega
    refine ⟨_, rfl, _, rfl, _, rfl, _, z.length, rfl, ⟨hz, rfl⟩, q, z.length, rfl, D, by omega, by omega, fun k H1 s1 k0 k1 => ?_⟩
    have el : z.cps.toList.length = z.length := by simp [Str.length]
    have hk : k.toNat < z.cps.toList.length := by omega
    refine .inr (.inr ⟨z, k, z.cps.toList[k.toNat], rfl, rfl, hz, ?_, h _ H1 s1 (List.getElem_mem hk)⟩)
    have e := atI_nat (List.getElem?_eq_getElem hk)
    rw [Int.toNat_of_nonneg k0] at e
    exact e
def slotLen (σ : L2.St) (H : Hp) (i : Nat) : Nat := match σ[i]? with | some (some (.ref a)) => (match H a with | some (.lst xs) => xs.length | _ => 0) | _ => 0
def pr_mixed : Pr := fun vs H Q => ∃ (q : Dq) (a : Addr) (ts : List Addr) (l : List Stn), vs = [.ref q.d, .ref a] ∧ DrAt H q ∧ H a = some (.lst (ts.map V.ref)) ∧ StsAt H ts l ∧ l.length ≤ 343 ∧
  ∀ p ts2 l2 H', Sm q H H' → H p = none → H' p = some (.lst (ts2.map V.ref)) → StsAt H' ts2 l2 → (∀ st ∈ l2, st ∈ l) → Q (.ref p) H'
theorem sc_l_mixed : FnScope ["_law_draw", "_law_some", "_law_left", "_law_found"] ["_law_draw", "_law_some"] (defScope s_l_mixed) := ⟨rfl, rfl, rfl, by decide +kernel, rfl, by decide +kernel, by decide +kernel⟩
theorem ok_l_mixed (T : T K mg) : Ok P w K mg base 2 (He.ga K "_law_mixed") pr_mixed := by
  refine Dn.ok T.l_mixed sc_l_mixed (fun _ _ _ _ _ _ us hl => match us, hl with | [_, _], _ => rfl) (fun vs H Q h => ?_) fun cdv A outer s H vs Q E hr h => ?_
  · obtain ⟨_, _, _, _, rfl, _⟩ := h
    rfl
  obtain ⟨q, a, ts, l, rfl, D, ha, hts, hz, h⟩ := h
  have lts : ts.length = l.length := Paired.length hts
  refine ⟨_, (pss_cons (ps_par (i := 2) (j := 3) rfl sc_l_mixed.nd rfl rfl (by decide) rfl rfl (pa_cons (pe_callTy call_list_of rfl T.z_list b_list (pa_cons (pv 1) pa_nil)) (pa_cons (pe_lst pa_nil) pa_nil)) (by rfl)) (pss_cons (ps_while PassesOwn.never (pt_cmpR (op_neP (K := K) rfl (by exact hr.units)) (pv 2) (pe_lst pa_nil) (nomark _)) (pss_one (ps_expr (pe_bm PySem.F.plainAttrs_list PySem.F.slot_list_append PySem.F.type_list_append mt_append (pv 3) (pa_cons (pe_bm PySem.F.plainAttrs_list PySem.F.slot_list_pop PySem.F.type_list_pop mt_popAt (pv 2) (pa_cons (pe_cal (ok_l_take T) (hr.mono (by decide)) rfl T.l_take (pa_cons (pv 0) (pa_cons (pe_callB (lenK (K := K) rfl) rfl T.z_len b_len (pa_cons (pv 2) pa_nil)) pa_nil))) pa_nil)) pa_nil))))) (pss_one (ps_ret (pv 3))))), ?_⟩
  refine ⟨_, rfl, a, _, rfl, .inl (SqL.of ha), fun L hL => ⟨Nat.zero_le _, fun F hF => ⟨_, _, rfl, ?_⟩⟩⟩
  have s1 := (D.sm (sms H)).up hL (o := .lst (ts.map V.ref))
  have s2 := s1.up hF (o := .lst [])
  have nFL : L ≠ F := ne_of_none upd_same hF
  have hF0 : H F = none := s1.free hF
  refine while_by (fun σ H' => ∃ ts1 l1 ts2 l2, σ = [some (.ref q.d), some (.ref a), some (.ref L), some (.ref F)] ∧ Sm q H H' ∧ H' L = some (.lst (ts1.map V.ref)) ∧ StsAt H' ts1 l1 ∧ H' F = some (.lst (ts2.map V.ref)) ∧ StsAt H' ts2 l2 ∧ (∀ st ∈ l1, st ∈ l) ∧ (∀ st ∈ l2, st ∈ l) ∧ l1.length ≤ 343 ∧ l1.length + l2.length ≤ 1000) (fun σ H' => slotLen σ H' 2)
    ⟨ts, l, [], [], rfl, s2, by rw [upd_ne nFL, upd_same], hts.mono s2.tk, upd_same, .nil, fun st h => h, (fun st h => by cases h), hz, (by show l.length + 0 ≤ 1000; omega)⟩ ?_ (fun σ H Q Q' hm ⟨v, hv, hz, p⟩ => ⟨v, hv, hz, fun p' hp' => let ⟨d, e, h1, h2, h3, h4, h5, k, hk, qq⟩ := p p' hp'; ⟨d, e, h1, h2, h3, h4, h5, k, hk, hm _ _ qq⟩⟩)
  rintro σ H1 ⟨ts1, l1, ts2, l2, rfl, s3, hL1, hts1, hF1, hts2, sub1, sub2, z1, z2⟩
  have nLF : L ≠ F := nFL
  have nLd := s3.d1.ne hL
  have nFd := s3.d1.ne hF0
  have lt1 : ts1.length = l1.length := Paired.length hts1
  have lt2 : ts2.length = l2.length := Paired.length hts2
  refine ⟨_, rfl, Nat.zero_le _, fun e he => ?_⟩
  have s4 := (sms H1).up he (o := .lst [])
  have dp : Dp K (upd H1 e (.lst [])) (.ref L) (.list (l1.map stD)) := .lst (SqL.of (s4 _ _ hL1)) (sts_dp (hts1.mono s4.tk))
  refine ⟨_, _, dp, .lst (SqL.of upd_same) .nil, plain_list (stDs_plain l1), nil_plain, Nat.le_trans (depth_list (stDs_depth l1)) (by decide), _, rfl, ?_⟩
  cases l1 with
  | nil =>
    refine iteFe (by rw [eqv_nil]; rfl) ⟨_, rfl, h F ts2 l2 _ (s3.same s4) hF0 (s4 _ _ hF1) (hts2.mono s4.tk) sub2⟩
  | cons st0 l1' =>
    refine iteTe (by rw [eqv_nil]; rfl) ?_
    have hF4 := s4 _ _ hF1
    have hL4 := s4 _ _ hL1
    have s34 := s3.same s4
    refine ⟨_, rfl, .inl ⟨rfl, _, SqL.of hF4⟩, _, rfl, .inl ⟨rfl, _, SqL.of hL4⟩, _, rfl, _, rfl, _, ts1.length, rfl, .inl ⟨_, SqL.of hL4, by rw [List.length_map]⟩, q, ts1.length, rfl, s34.d2, (by have := lt1; simp at this; omega), (by rw [lt1]; omega), fun k H2 s5 k0 k1 => ?_⟩
    have hL2 := s5.kp _ _ hL4 nLd.1 nLd.2
    have hF2 := s5.kp _ _ hF4 nFd.1 nFd.2
    have hk : k.toNat < ts1.length := by omega
    obtain ⟨tk, htk⟩ : ∃ tk, ts1[k.toNat]? = some tk := ⟨_, List.getElem?_eq_getElem hk⟩
    have hts2' := (hts1.mono s4.tk).mono s5.tk
    obtain ⟨stk, hstk, hSt⟩ := paired_at hts2' htk
    refine ⟨L, _, k, k.toNat, .ref tk, rfl, rfl, hL2, by omega, by omega, ?_, by rw [List.getElem?_map, htk]; rfl, ?_⟩
    · have hk3 : ¬ k < 0 := by omega
      simp [seqIndex?, hk3, k0, k1]
    have kk : Tk H2 (upd H2 L (.lst ((ts1.map V.ref).eraseIdx k.toNat))) := Tk.at hL2 (fun xs z => by cases z)
    have hF3 : (upd H2 L (.lst ((ts1.map V.ref).eraseIdx k.toNat))) F = some (.lst (ts2.map V.ref)) := by rw [upd_ne (Ne.symm nLF)]; exact hF2
    refine ⟨F, _, _, rfl, rfl, hF3, by rw [List.length_map, lt2, sizeLine_eq]; omega, ?_⟩
    have k2 : Tk (upd H2 L (.lst ((ts1.map V.ref).eraseIdx k.toNat))) (upd (upd H2 L (.lst ((ts1.map V.ref).eraseIdx k.toNat))) F (.lst (ts2.map V.ref ++ [.ref tk]))) := Tk.at hF3 (fun xs z => by cases z)
    have mem : stk ∈ st0 :: l1' := List.mem_of_getElem? hstk
    refine ⟨⟨ts1.eraseIdx k.toNat, (st0 :: l1').eraseIdx k.toNat, ts2 ++ [tk], l2 ++ [stk], rfl, ((s34.trans s5).new hL).new hF0, ?_, ?_, ?_, ?_, ?_, ?_, ?_, ?_⟩, ?_⟩
    · rw [upd_ne nLF, upd_same, map_erase]
    · exact paired_erase k.toNat ((hts2'.mono kk).mono k2)
    · rw [upd_same, List.map_append]; rfl
    · exact paired_snoc ((hSt.mono kk).mono k2) (((((hts2.mono s4.tk).mono s5.tk)).mono kk).mono k2)
    · exact fun st hst => sub1 st (List.mem_of_mem_eraseIdx hst)
    · intro st hst
      rcases List.mem_append.mp hst with h1 | h1
      · exact sub2 st h1
      · rw [List.mem_singleton.mp h1]; exact sub1 _ mem
    · have := List.length_eraseIdx_le (st0 :: l1') k.toNat
      omega
    · have hk2 : k.toNat < (st0 :: l1').length := by rw [← lt1]; exact hk
      rw [List.length_eraseIdx_of_lt hk2, List.length_append, List.length_singleton]
      simp at z2 ⊢
      omega
    · have e1 : slotLen [some (V.ref q.d), some (.ref a), some (.ref L), some (.ref F)] H1 2 = ts1.length := by
        show (match H1 L with | some (.lst xs) => xs.length | _ => 0) = _
        rw [hL1]
        simp
      have e2 : slotLen [some (V.ref q.d), some (.ref a), some (.ref L), some (.ref F)] (upd (upd H2 L (.lst ((ts1.map V.ref).eraseIdx k.toNat))) F (.lst (ts2.map V.ref ++ [.ref tk]))) 2 = ts1.length - 1 := by
        show (match (upd (upd H2 L (.lst ((ts1.map V.ref).eraseIdx k.toNat))) F (.lst (ts2.map V.ref ++ [.ref tk]))) L with | some (.lst xs) => xs.length | _ => 0) = _
        rw [upd_ne nLF, upd_same]
        simp only []
        rw [List.length_eraseIdx_of_lt (by rw [List.length_map]; exact hk), List.length_map]
      show slotLen _ _ 2 < slotLen _ _ 2
      rw [e1, e2]
      omega

def pr_some_names : Pr := fun vs H Q => ∃ (q : Dq) (m : Nat), vs = [.ref q.d, .int m] ∧ DrAt H q ∧ m ≤ 3 ∧ ∀ p (ys : List Str) H', Sm q H H' → H p = none → H' p = some (.lst (ys.map V.str)) → ys.length = m → ys.Nodup → (∀ y ∈ ys, NameOk y) → Q (.ref p) H'
theorem letters_len : letters.length = 26 := by decide +kernel
theorem joined_ok {cs : List Nat} (h0 : 1 ≤ cs.length) (h1 : cs.length ≤ 8) (h : ∀ c ∈ cs, c ∈ letters.cps.toList) : NameOk (Txt.join "" (cs.map fun c => (⟨#[c]⟩ : Str))) := by
  have e : (Txt.join "" (cs.map fun c => (⟨#[c]⟩ : Str))).cps.toList = cs := by
    cases cs with
    | nil => simp at h0
    | cons c r =>
      have : (Txt.join "" ((c :: r).map fun c => (⟨#[c]⟩ : Str))).cps = ((r.map fun c => (⟨#[c]⟩ : Str)).foldl (fun acc p => acc ++ (Str.empty : Str).cps ++ p.cps) #[c]) := by
        rfl
      rw [this, glue_cps]
      rfl
  refine ⟨?_, ?_, by rw [e]; exact h⟩
  · have : (Txt.join "" (cs.map fun c => (⟨#[c]⟩ : Str))).length = cs.length := by
      conv => rhs; rw [← e]
      simp [Str.length]
    omega
  · have : (Txt.join "" (cs.map fun c => (⟨#[c]⟩ : Str))).length = cs.length := by
      conv => rhs; rw [← e]
      simp [Str.length]
    omega
theorem sc_l_some_names : FnScope ["_law_draw", "_law_many", "_law_pool", "_law_letters", "_law_found", "_law_turn", "_law_word", "_law_near", "_law_letter", "_law_sign", "_law_one"] ["_law_draw", "_law_many"] (defScope s_l_some_names) := ⟨rfl, rfl, rfl, by decide +kernel, rfl, by decide +kernel, by decide +kernel⟩
theorem ok_l_some_names (T : T K mg) : Ok P w K mg base 3 (He.ga K "_law_some_names") pr_some_names := by
  refine Dn.ok T.l_some_names sc_l_some_names (fun _ _ _ _ _ _ us hl => match us, hl with | [_, _], _ => rfl) (fun vs H Q h => ?_) fun cdv A outer s H vs Q E hr h => ?_
  · obtain ⟨_, _, rfl, _⟩ := h
    rfl
  obtain ⟨q, m, rfl, DR, hm, h⟩ := h
  refine ⟨_, (pss_cons (ps_set (i := 2) sc_l_some_names.nd rfl (by first | exact .inl rfl | exact .inr rfl) (pe_lst (pa_cons pe_str (pa_cons pe_str (pa_cons pe_str (pa_cons pe_str (pa_cons pe_str (pa_cons pe_str (pa_cons pe_str (pa_cons pe_str pa_nil)))))))))) (pss_cons (ps_asg (pe_tup (pa_cons pe_str (pa_cons (pe_lst pa_nil) pa_nil))) (pg_tup rfl (pgs_cons (pg_name (i := 3) sc_l_some_names.nd rfl (by first | exact .inl rfl | exact .inr rfl)) (pgs_cons (pg_name (i := 4) sc_l_some_names.nd rfl (by first | exact .inl rfl | exact .inr rfl)) pgs_nil)))) (pss_cons (ps_for PassesOwn.never rfl (pi_range1 rfl T.z_range (pa_cons (pv 1) pa_nil)) (pg_name (i := 5) sc_l_some_names.nd rfl (by first | exact .inl rfl | exact .inr rfl)) (pss_cons (ps_set (i := 6) sc_l_some_names.nd rfl (by first | exact .inl rfl | exact .inr rfl) (pe_cal (ok_l_pick T) (hr.mono (by decide)) rfl T.l_pick (pa_cons (pv 0) (pa_cons (pv 2) pa_nil)))) (pss_cons (ps_if (pt_cmpR op_eq (pe_cal (ok_l_take T) (hr.mono (by decide)) rfl T.l_take (pa_cons (pv 0) (pa_cons pe_int pa_nil))) pe_int (nomark _)) (pss_one (ps_set (i := 6) sc_l_some_names.nd rfl (by first | exact .inl rfl | exact .inr rfl) (pe_join pe_str (pe_lc (own := [("_law_sign", 9)]) (g := gName 9) (tt := tYes) rfl sc_l_some_names.nd  (pi_range1 rfl T.z_range (pa_cons (pe_cal (ok_l_pick T) (hr.mono (by decide)) rfl T.l_pick (pa_cons (pv 0) (pa_cons (pe_lst (pa_cons pe_int (pa_cons pe_int (pa_cons pe_int (pa_cons pe_int pa_nil))))) pa_nil))) pa_nil)) (blkOk_by (N := ["_law_draw", "_law_many", "_law_pool", "_law_letters", "_law_found", "_law_turn", "_law_word", "_law_near", "_law_letter", "_law_sign", "_law_one"]) (sc := defScope s_l_some_names) (by decide +kernel)) (fun _ _ _ _ _ => pg_name (i := 9) sc_l_some_names.nd rfl (by first | exact .inl rfl | exact .inr rfl)) (fun _ _ _ _ _ => pts_nil) (fun _ _ _ _ _ => (pe_cal (ok_l_pick T) (hr.mono (by decide)) rfl T.l_pick (pa_cons (pv 0) (pa_cons (pv 3) pa_nil)))))))) pss_nil) (pss_cons (ps_set (i := 7) sc_l_some_names.nd rfl (by first | exact .inl rfl | exact .inr rfl) (pe_op op_cat (pe_lst (pa_cons (pv 6) pa_nil)) (pe_lc (own := [("_law_letter", 8)]) (g := gName 8) (tt := tYes) rfl sc_l_some_names.nd  (pi_str (pv 3)) (blkOk_by (N := ["_law_draw", "_law_many", "_law_pool", "_law_letters", "_law_found", "_law_turn", "_law_word", "_law_near", "_law_letter", "_law_sign", "_law_one"]) (sc := defScope s_l_some_names) (by decide +kernel)) (fun _ _ _ _ _ => pg_name (i := 8) sc_l_some_names.nd rfl (by first | exact .inl rfl | exact .inr rfl)) (fun _ _ _ _ _ => pts_nil) (fun _ _ _ _ _ => (pe_op op_add_str (pe_slice sl_str (pv 6) po_none (po_some pe_int)) (pv 8)))))) (pss_one (ps_expr (pe_bm PySem.F.plainAttrs_list PySem.F.slot_list_append PySem.F.type_list_append mt_append (pv 4) (pa_cons (pe_ix (ixL (K := K) rfl) (pe_lc (own := [("_law_one", 10)]) (g := gName 10) rfl sc_l_some_names.nd  (piL (K := K) rfl (pv 7)) (blkOk_by (N := ["_law_draw", "_law_many", "_law_pool", "_law_letters", "_law_found", "_law_turn", "_law_word", "_law_near", "_law_letter", "_law_sign", "_law_one"]) (sc := defScope s_l_some_names) (by decide +kernel)) (fun _ _ _ _ _ => pg_name (i := 10) sc_l_some_names.nd rfl (by first | exact .inl rfl | exact .inr rfl)) (fun _ _ _ _ _ => (pts_one (pt_cmpR (ninQ (K := K) rfl) (pv 10) (pv 4) (by rfl)))) (fun _ _ _ _ _ => (pv 10))) pe_int (fun _ _ => rfl)) pa_nil)))))))) (pss_one (ps_ret (pv 4)))))), ?_⟩
  refine ⟨by show 8 ≤ sizeLine; decide, fun pl hplN => ⟨Nat.zero_le _, fun f hfN => ⟨by show 2 ≤ sizeLine; decide, fun tt htt => ⟨tt, _, rfl, SqT.of upd_same, rfl, _, _, rfl, _, _, rfl, rfl, ?_⟩⟩⟩⟩
  have s1 := (DR.sm (sms H)).up hplN (o := .lst poolV)
  have s2 := s1.up hfN (o := .lst [])
  have s3 := s2.up htt (o := .tup [.str letters, .ref f])
  obtain ⟨npd, npl⟩ := DR.ne hplN
  obtain ⟨NFd, NFl⟩ := s1.d2.ne hfN
  have hfn : (upd H pl (.lst poolV)) f = none := hfN
  refine ⟨_, rfl, (m : Int), rfl, by omega, by omega, ?_⟩
  rw [Int.toNat_natCast]
  have hfp : pl ≠ f := ne_of_none upd_same hfN
  have s23 : Sm q (upd H pl (.lst poolV)) (upd (upd (upd H pl (.lst poolV)) f (.lst [])) tt (.tup [.str letters, .ref f])) := ((s1.d2.sm (sms _)).up hfN).up htt
  refine for_it walk_range (fun i σ H' => ∃ v5 v6 v7 ys, σ = [some (.ref q.d), some (.int m), some (.ref pl), some (.str letters), some (.ref f), v5, v6, v7, none, none, none] ∧ Sm q (upd H pl (.lst poolV)) H' ∧ H' pl = some (.lst poolV) ∧ H' f = some (.lst (ys.map V.str)) ∧ ys.length = i ∧ ys.Nodup ∧ (∀ y ∈ ys, NameOk y))
    ⟨none, none, none, [], rfl, s23, s23.kp _ _ upd_same npd npl, (sms (upd (upd H pl (.lst poolV)) f (.lst []))).up htt _ _ upd_same, rfl, .nil, fun y hy => by cases hy⟩ (fun _ _ _ _ _ => trivial) ?_ ?_
  · rintro i x σ H1 H2 hi ⟨v5, v6, v7, ys, rfl, sA, hpA, hfA, hyl, hnd, hok⟩ ⟨rfl, rfl⟩
    refine ⟨_, rfl, _, rfl, q, sA.d2, .inl ⟨pl, poolV, rfl, hpA, npl, by decide, by decide, fun v H3 s3 hv => ?_⟩⟩
    obtain ⟨z0, rfl, nz0⟩ := pool_v hv
    refine ⟨_, rfl, q, 3, rfl, s3.d2, by decide, by decide, fun k H4 s4 k0 k1 => ⟨rfl, _, rfl, ?_⟩⟩
    have sB := (sA.trans s3).trans s4
    have POOLNE : HO.lst poolV ≠ HO.lst (ys.map V.str) := fun z => by
      have := congrArg List.length (HO.lst.inj z)
      simp [poolV] at this
      omega
    have hpl1 : (upd H pl (.lst poolV)) pl = some (.lst poolV) := upd_same
    have hfB : H4 f = some (.lst (ys.map V.str)) := s4.kp _ _ (s3.kp _ _ hfA NFd NFl) NFd NFl
    by_cases k00 : k = 0
    · refine iteTe (by simpa using k00) ?_
      refine ⟨⟨_, rfl⟩, _, rfl, by show 4 ≤ sizeLine; decide, fun a0 ha0 => ?_⟩
      have sC := sB.up ha0 (o := .lst [.int 1, .int 2, .int 3, .int 8])
      refine ⟨q, sC.d2, .inl ⟨a0, _, rfl, upd_same, (sB.ne2 ha0).2, by decide, by decide, fun v H5 s5 hv => ?_⟩⟩
      obtain ⟨j, rfl, j0, j1⟩ : ∃ j : Nat, v = .int j ∧ 1 ≤ j ∧ j ≤ 8 := by
        simp only [List.mem_cons, List.not_mem_nil, or_false] at hv
        rcases hv with rfl | rfl | rfl | rfl
        · exact ⟨1, rfl, by decide, by decide⟩
        · exact ⟨2, rfl, by decide, by decide⟩
        · exact ⟨3, rfl, by decide, by decide⟩
        · exact ⟨8, rfl, by decide, by decide⟩
      have sD := sC.trans s5
      refine ⟨(j : Int), rfl, by omega, by omega, fun D hD => ?_⟩
      rw [Int.toNat_natCast]
      -- the signs picked: as codes
      refine lc_it walk_range (fun i2 H' => Sm q H5 H' ∧ ∃ cs : List Nat, H' D = some (.lst (cs.map fun c => V.str ⟨#[c]⟩)) ∧ cs.length = i2 ∧ ∀ c ∈ cs, c ∈ letters.cps.toList) ⟨(sD.d2.sm (sms H5)).up hD, [], upd_same, rfl, fun c hc => by cases hc⟩ (fun _ _ _ _ => trivial) ?_ ?_
      · rintro i2 x2 H6 H7 hi2 ⟨sE, cs, hDc, hcl, hcok⟩ ⟨rfl, rfl⟩
        have nD := sD.d2.ne hD
        refine ⟨rfl, _, rfl, _, rfl, q, sE.d2, .inr ⟨letters, rfl, by decide +kernel, by decide +kernel, fun c H8 s8 hc => ⟨_, s8.kp _ _ hDc nD.1 nD.2, ?_, (sE.trans s8).new hD, cs ++ [c], ?_, by rw [List.length_append, hcl]; rfl, fun c' hc' => ?_⟩⟩⟩
        · rw [List.length_map, hcl, sizeLine_eq]; omega
        · rw [upd_same, List.map_append]; rfl
        · rcases List.mem_append.mp hc' with h1 | h1
          · exact hcok c' h1
          · rw [List.mem_singleton.mp h1]; exact hc
      intro H6 ⟨sE, cs, hDc, hcl, hcok⟩
      have eD : cs.map (fun c => V.str ⟨#[c]⟩) = (cs.map fun c => (⟨#[c]⟩ : Str)).map V.str := by rw [List.map_map]; rfl
      have hsum : ∀ l : List Nat, ((l.map fun c => (⟨#[c]⟩ : Str)).map (·.length)).sum = l.length := fun l => by
        induction l with
        | nil => rfl
        | cons a r ih => rw [List.map_cons, List.map_cons, List.sum_cons, ih, List.length_cons]; show 1 + r.length = _; omega
      refine ⟨_, D, cs.map fun c => (⟨#[c]⟩ : Str), rfl, rfl, .inl (SqL.of (by rw [hDc, eD])), ?_, ?_⟩
      · rw [hsum, List.length_map]
        show cs.length + cs.length * 0 ≤ _
        omega
      have nz := joined_ok (cs := cs) (by omega) (by omega) hcok
      have sZ := sD.trans sE
      have hf := hfB
      have hf : H6 f = some (.lst (ys.map V.str)) := sE.kp _ _ (s5.kp _ _ ((sms H4).up ha0 _ _ hfB) NFd NFl) NFd NFl
      generalize hz : Txt.join "" (cs.map fun c => (⟨#[c]⟩ : Str)) = z at nz ⊢

      have hzl : z.length ≤ sizeLine := by have := nz.2.1; rw [sizeLine_eq]; omega
      refine ⟨_, rfl, by show 1 ≤ sizeLine; decide, fun a1 ha1 => ?_⟩
      have t1 := sZ.up ha1 (o := .lst [.str z])
      refine ⟨_, rfl, letters, rfl, fun D hD => ?_⟩
      refine lc_go (rel_sm q) walk_str hD (t1.d2.sm (sms _)) (fun i => (letters.cps.toList.take i).map fun c => cutS z none (some 7) ++ ⟨#[c]⟩) (fun _ v n => v = V.str n) rfl (fun _ _ => trivial) ?_ ?_
      · rintro i2 x2 H5 H6 hi2 I2 ⟨rfl, c, hc, rfl⟩
        have hlet : letters.cps.size = 26 := by decide +kernel
        refine ⟨rfl, _, rfl, _, rfl, z, rfl, hzl, _, rfl, _, _, rfl, rfl, ?_, I2.step (rel_sm q) hD tkStr (by omega) (I2.rl.d2.sm (sms _)) ?_ rfl⟩
        · have := cut7_len z
          show (cutS z none (some 7)).length + 1 ≤ sizeLine
          rw [sizeLine_eq]; omega
        · rw [take_snoc (x := c) (by rw [Array.getElem?_toList]; exact hc), List.map_append]
          rfl
      intro us H5 h5 s5 p5
      have eus : us = ((letters.cps.toList).map fun c => cutS z none (some 7) ++ (⟨#[c]⟩ : Str)).map V.str := by
        have := paired_eq p5
        rw [List.take_of_length_le (by simp)] at this
        exact this
      have t5 := t1.trans s5
      have hf5 := (((sZ.d2.sm (sms _)).up ha1).trans s5).kp _ _ hf NFd NFl
      have ha5 : H5 a1 = some (.lst [.str z]) := s5.kp _ _ upd_same (sZ.ne2 ha1).1 (sZ.ne2 ha1).2
      refine ⟨a1, D, _, us, rfl, rfl, ha5, h5, ?_, fun nr hnr => ⟨_, rfl, .inl ⟨rfl, _, SqL.of ((sms H5).up hnr _ _ hf5)⟩, ?_⟩⟩
      · rw [eus]
        have hlet : letters.cps.toList.length = 26 := by decide +kernel
        rw [List.length_map, List.length_map, hlet, sizeLine_eq]
        show 1 + 26 ≤ _
        omega
      have t6 := t5.up hnr (o := .lst ([V.str z] ++ us))
      have hf6 := (sms H5).up hnr (o := .lst ([V.str z] ++ us)) _ _ hf5
      have hn6 : (upd H5 nr (.lst ([V.str z] ++ us))) nr = some (.lst ((nears z).map V.str)) := by rw [upd_same, eus]; rfl
      generalize hH6 : upd H5 nr (.lst ([V.str z] ++ us)) = H6 at *
      refine ⟨_, rfl, nr, rfl, ⟨_, SqL.of hn6⟩, fun D2 hD2 => ?_⟩
      refine lc_go (rel_sm q) (walk_list (xs := (nears z).map V.str)) hD2 (t6.d2.sm (sms _)) (fun i => ((nears z).take i).filter fun y => decide (y ∉ ys)) (fun _ v n => v = V.str n) rfl (fun H7 s7 => SqL.of (s7.kp _ _ hn6 (t5.ne2 hnr).1 (t5.ne2 hnr).2)) ?_ ?_
      · rintro i2 x2 H7 H8 hi2 I2 ⟨rfl, e2⟩
        rw [List.getElem?_map] at e2
        obtain ⟨y, hy, rfl⟩ := Option.map_eq_some_iff.mp e2
        have hf7 := I2.rl.kp _ _ hf6 NFd NFl
        have hi3 : i2 < 1000 := by
          have hlet : letters.cps.toList.length = 26 := by decide +kernel
          rw [List.length_map, nears, List.length_cons, List.length_map, hlet] at hi2
          omega
        refine ⟨rfl, _, rfl, _, rfl, f, _, rfl, .inl (SqL.of hf7), rfl, flat_strs _, _, rfl, ?_⟩
        by_cases q2 : y ∈ ys
        · refine iteFe (by rw [inV_str, decide_eq_true q2]; rfl) (I2.skip (rel_sm q) hD2 tkStr (I2.rl.d2.sm (sms _)) ?_)
          rw [take_snoc hy, List.filter_append]
          simp [q2]
        · refine iteTe (by rw [inV_str, decide_eq_false q2]; rfl) ⟨_, rfl, I2.step (rel_sm q) hD2 tkStr hi3 (I2.rl.d2.sm (sms _)) (z := y) ?_ rfl⟩
          rw [take_snoc hy, List.filter_append]
          simp [q2]
      intro us2 H7 h7 s7 p7
      obtain ⟨y, rest, ey, hyn, hyo⟩ := near_new (z := z) nz (ys := ys) (by omega)
      have eus2 : us2 = (y :: rest).map V.str := by
        have := paired_eq p7
        rw [List.take_of_length_le (by simp), ey] at this
        exact this
      have hf7 := s7.kp _ _ hf6 NFd NFl
      refine ⟨D2, us2, 0, .str y, rfl, rfl, SqL.of h7, by rw [eus2]; exact atI_nat (j := 0) rfl, f, _, _, rfl, rfl, hf7, ?_, ?_⟩
      · rw [List.length_map, sizeLine_eq]; omega
      · refine ⟨_, _, _, ys ++ [y], rfl, (t6.trans s7).new hfn, ?_, upd_same.trans ?_, by rw [List.length_append, hyl]; rfl, ?_, ?_⟩
        · rw [upd_ne (ne_of (t6.trans s7 |>.kp _ _ hpl1 npd npl) hf7 (fun z => POOLNE z))]
          exact (t6.trans s7).kp _ _ hpl1 npd npl
        · rw [List.map_append]; rfl
        · rw [List.nodup_append]
          refine ⟨hnd, by simp, fun a ha b hb e => ?_⟩
          rw [List.mem_singleton.mp hb] at e
          exact hyn (e ▸ ha)
        · intro y' hy'
          rcases List.mem_append.mp hy' with h1 | h1
          · exact hok y' h1
          · rw [List.mem_singleton.mp h1]; exact hyo
  
    · refine iteFe (by simpa using k00) ?_
      have nz := nz0
      have sZ := sB
      have hf := hfB
      generalize z0 = z at *

      have hzl : z.length ≤ sizeLine := by have := nz.2.1; rw [sizeLine_eq]; omega
      refine ⟨_, rfl, by show 1 ≤ sizeLine; decide, fun a1 ha1 => ?_⟩
      have t1 := sZ.up ha1 (o := .lst [.str z])
      refine ⟨_, rfl, letters, rfl, fun D hD => ?_⟩
      refine lc_go (rel_sm q) walk_str hD (t1.d2.sm (sms _)) (fun i => (letters.cps.toList.take i).map fun c => cutS z none (some 7) ++ ⟨#[c]⟩) (fun _ v n => v = V.str n) rfl (fun _ _ => trivial) ?_ ?_
      · rintro i2 x2 H5 H6 hi2 I2 ⟨rfl, c, hc, rfl⟩
        have hlet : letters.cps.size = 26 := by decide +kernel
        refine ⟨rfl, _, rfl, _, rfl, z, rfl, hzl, _, rfl, _, _, rfl, rfl, ?_, I2.step (rel_sm q) hD tkStr (by omega) (I2.rl.d2.sm (sms _)) ?_ rfl⟩
        · have := cut7_len z
          show (cutS z none (some 7)).length + 1 ≤ sizeLine
          rw [sizeLine_eq]; omega
        · rw [take_snoc (x := c) (by rw [Array.getElem?_toList]; exact hc), List.map_append]
          rfl
      intro us H5 h5 s5 p5
      have eus : us = ((letters.cps.toList).map fun c => cutS z none (some 7) ++ (⟨#[c]⟩ : Str)).map V.str := by
        have := paired_eq p5
        rw [List.take_of_length_le (by simp)] at this
        exact this
      have t5 := t1.trans s5
      have hf5 := (((sZ.d2.sm (sms _)).up ha1).trans s5).kp _ _ hf NFd NFl
      have ha5 : H5 a1 = some (.lst [.str z]) := s5.kp _ _ upd_same (sZ.ne2 ha1).1 (sZ.ne2 ha1).2
      refine ⟨a1, D, _, us, rfl, rfl, ha5, h5, ?_, fun nr hnr => ⟨_, rfl, .inl ⟨rfl, _, SqL.of ((sms H5).up hnr _ _ hf5)⟩, ?_⟩⟩
      · rw [eus]
        have hlet : letters.cps.toList.length = 26 := by decide +kernel
        rw [List.length_map, List.length_map, hlet, sizeLine_eq]
        show 1 + 26 ≤ _
        omega
      have t6 := t5.up hnr (o := .lst ([V.str z] ++ us))
      have hf6 := (sms H5).up hnr (o := .lst ([V.str z] ++ us)) _ _ hf5
      have hn6 : (upd H5 nr (.lst ([V.str z] ++ us))) nr = some (.lst ((nears z).map V.str)) := by rw [upd_same, eus]; rfl
      generalize hH6 : upd H5 nr (.lst ([V.str z] ++ us)) = H6 at *
      refine ⟨_, rfl, nr, rfl, ⟨_, SqL.of hn6⟩, fun D2 hD2 => ?_⟩
      refine lc_go (rel_sm q) (walk_list (xs := (nears z).map V.str)) hD2 (t6.d2.sm (sms _)) (fun i => ((nears z).take i).filter fun y => decide (y ∉ ys)) (fun _ v n => v = V.str n) rfl (fun H7 s7 => SqL.of (s7.kp _ _ hn6 (t5.ne2 hnr).1 (t5.ne2 hnr).2)) ?_ ?_
      · rintro i2 x2 H7 H8 hi2 I2 ⟨rfl, e2⟩
        rw [List.getElem?_map] at e2
        obtain ⟨y, hy, rfl⟩ := Option.map_eq_some_iff.mp e2
        have hf7 := I2.rl.kp _ _ hf6 NFd NFl
        have hi3 : i2 < 1000 := by
          have hlet : letters.cps.toList.length = 26 := by decide +kernel
          rw [List.length_map, nears, List.length_cons, List.length_map, hlet] at hi2
          omega
        refine ⟨rfl, _, rfl, _, rfl, f, _, rfl, .inl (SqL.of hf7), rfl, flat_strs _, _, rfl, ?_⟩
        by_cases q2 : y ∈ ys
        · refine iteFe (by rw [inV_str, decide_eq_true q2]; rfl) (I2.skip (rel_sm q) hD2 tkStr (I2.rl.d2.sm (sms _)) ?_)
          rw [take_snoc hy, List.filter_append]
          simp [q2]
        · refine iteTe (by rw [inV_str, decide_eq_false q2]; rfl) ⟨_, rfl, I2.step (rel_sm q) hD2 tkStr hi3 (I2.rl.d2.sm (sms _)) (z := y) ?_ rfl⟩
          rw [take_snoc hy, List.filter_append]
          simp [q2]
      intro us2 H7 h7 s7 p7
      obtain ⟨y, rest, ey, hyn, hyo⟩ := near_new (z := z) nz (ys := ys) (by omega)
      have eus2 : us2 = (y :: rest).map V.str := by
        have := paired_eq p7
        rw [List.take_of_length_le (by simp), ey] at this
        exact this
      have hf7 := s7.kp _ _ hf6 NFd NFl
      refine ⟨D2, us2, 0, .str y, rfl, rfl, SqL.of h7, by rw [eus2]; exact atI_nat (j := 0) rfl, f, _, _, rfl, rfl, hf7, ?_, ?_⟩
      · rw [List.length_map, sizeLine_eq]; omega
      · refine ⟨_, _, _, ys ++ [y], rfl, (t6.trans s7).new hfn, ?_, upd_same.trans ?_, by rw [List.length_append, hyl]; rfl, ?_, ?_⟩
        · rw [upd_ne (ne_of (t6.trans s7 |>.kp _ _ hpl1 npd npl) hf7 (fun z => POOLNE z))]
          exact (t6.trans s7).kp _ _ hpl1 npd npl
        · rw [List.map_append]; rfl
        · rw [List.nodup_append]
          refine ⟨hnd, by simp, fun a ha b hb e => ?_⟩
          rw [List.mem_singleton.mp hb] at e
          exact hyn (e ▸ ha)
        · intro y' hy'
          rcases List.mem_append.mp hy' with h1 | h1
          · exact hok y' h1
          · rw [List.mem_singleton.mp h1]; exact hyo
  
  · rintro σ H1 ⟨v5, v6, v7, ys, rfl, sA, hpA, hfA, hyl, hnd, hok⟩
    exact ⟨_, rfl, h f ys H1 (s1.trans sA) (s1.free hfN) hfA hyl hnd hok⟩
end
end U

set_option Elab.async false
set_option linter.all false
set_option maxRecDepth 100000
set_option maxHeartbeats 4000000
/-! Cases. -/
namespace U
open PySem PySem.Spec PyProof.Rows L2
/-! comprehensions whose items are drawn -/
structure LeI {β : Type} (Rl : Hp → Hp → Prop) (R : Hp → V → β → Prop) (p : Nat → β → Prop) (H0 : Hp) (D : Addr) (i : Nat) (H : Hp) : Prop where
  rl : Rl H0 H
  at_ : ∃ us zs, H D = some (.lst us) ∧ Paired (R H) us zs ∧ zs.length = i ∧ ∀ j z, zs[j]? = some z → p j z
section
variable {β : Type} {Rl : Hp → Hp → Prop} {R : Hp → V → β → Prop} {p : Nat → β → Prop} {H0 H H4 : Hp} {D : Addr} {i : Nat}
theorem LeI.step (I : LeI Rl R p H0 D i H) (rl : Rel Rl) (hD : H0 D = none) (hR : TkR R) (hz : i < 1000) (k : Rl H H4) {y : V} {z : β} (r : R H4 y z) (pz : p i z) :
    ∃ us, H4 D = some (.lst us) ∧ us.length < sizeLine ∧ LeI Rl R p H0 D (i + 1) (upd H4 D (.lst (us ++ [y]))) := by
  obtain ⟨h2, us, zs, h1, h3, h4, h5⟩ := I
  have hl := rl.kp h2 hD h1 k
  have t1 : Tk H4 (upd H4 D (.lst (us ++ [y]))) := Tk.at hl (fun xs z => by cases z)
  have lu : us.length = zs.length := Paired.length h3
  refine ⟨us, hl, by rw [sizeLine_eq]; omega, rl.nw (rl.tr h2 k) hD, us ++ [y], zs ++ [z], upd_same, paired_snoc (hR t1 r) (Paired.mapP h3 fun _ _ z => hR t1 (hR (rl.tk k) z)), by rw [List.length_append, h4]; rfl, fun j w e => ?_⟩
  by_cases hj : j < zs.length
  · rw [List.getElem?_append_left hj] at e
    exact h5 j w e
  · rw [List.getElem?_append_right (by omega)] at e
    cases q : j - zs.length with
    | zero =>
      rw [q] at e
      cases e
      have : j = i := by omega
      rw [this]
      exact pz
    | succ n => rw [q] at e; simp at e
theorem le_go {J : It} {n : Nat} {G : Hp → Prop} {Y : Nat → Hp → V → Hp → Prop} (rl : Rel Rl) (w : Walk J n G Y) {g : TG} {tt : TT} {te : TE} {vs : List Nat} {σ : L2.St} {Qd : Hp → Prop} (hD : H0 D = none) (hr : Rl H0 H0) (R : Hp → V → β → Prop) (p : Nat → β → Prop)
    (hG : ∀ H, Rl H0 H → G H)
    (hs : ∀ i x H H', i < n → LeI Rl R p H0 D i H → Y i H x H' → g x (wipe σ vs) H' fun σ2 H2 => wipe σ2 vs = wipe σ vs ∧ tt σ2 H2 fun b H3 =>
      if b = true then te σ2 H3 fun y H4 => ∃ us, H4 D = some (.lst us) ∧ us.length < sizeLine ∧ LeI Rl R p H0 D (i + 1) (upd H4 D (.lst (us ++ [y]))) else LeI Rl R p H0 D (i + 1) H3)
    (hd : ∀ us zs H, H D = some (.lst us) → Rl H0 H → Paired (R H) us zs → zs.length = n → (∀ j z, zs[j]? = some z → p j z) → Qd H) :
    ∃ W : Nat → Nat → Hp → Prop, (∃ m, W 0 m (upd H0 D (.lst []))) ∧ ∀ i m H, W i m H →
      (J.stop i H ∧ Qd H) ∨ (J.go i H ∧ ∃ Nx : Hp → Prop, (∀ H', Nx H' → ∃ m', m' < m ∧ W (i + 1) m' H') ∧ ∀ x H', J.yld i H x H' → g x (wipe σ vs) H' fun σ2 H2 => wipe σ2 vs = wipe σ vs ∧ tt σ2 H2 fun b H3 =>
        if b = true then te σ2 H3 fun y H4 => ∃ acc, H4 D = some (.lst acc) ∧ acc.length < sizeLine ∧ Nx (upd H4 D (.lst (acc ++ [y]))) else Nx H3) :=
  lc_it w (LeI Rl R p H0 D) ⟨rl.nw hr hD, [], [], upd_same, .nil, rfl, fun j z e => by simp at e⟩ (fun i H _ I => hG H I.rl) hs fun H I => let ⟨us, zs, h1, h2, h3, h4⟩ := I.at_; hd us zs H h1 I.rl h2 h3 h4
end
/-! a case -/
def caseK (wa sa nd : Addr) (n : Int) : List (Key × V) := [(.inr "weights", .ref wa), (.inr "skipped", .ref sa), (.inr "spread", .int n), (.inr "numbers", .ref nd)]
def CaseAt (H : Hp) (x c : Addr) (ru : Ru) (nu : So) : Prop := ∃ wa sa nd, H c = some (.dK (caseK wa sa nd ru.n)) ∧ H wa = some (.tup (ru.w.map V.int)) ∧ H sa = some (.tup (ru.s.map V.int)) ∧ H nd = some (.dK (DI (ks nu))) ∧ c ≠ x ∧ nd ≠ x
theorem CaseAt.mono {H H' : Hp} {x c : Addr} {ru : Ru} {nu : So} (k : Same H H') (h : CaseAt H x c ru nu) : CaseAt H' x c ru nu := let ⟨wa, sa, nd, h1, h2, h3, h4, h5⟩ := h; ⟨wa, sa, nd, k _ _ h1, k _ _ h2, k _ _ h3, k _ _ h4, h5⟩
theorem DrAt.nl {q : Dq} {H : Hp} (s : DrAt H q) {D : Addr} {kvs : List (Key × V)} (h : H D = some (.dK kvs)) : D ≠ q.l := by
  obtain ⟨lg, cs, r, t, m, h1, h2, _⟩ := s
  intro z
  rw [z, h2] at h
  cases h
theorem CaseAt.sm {H H' : Hp} {q : Dq} {c : Addr} {ru : Ru} {nu : So} (k : Sm q H H') (h : CaseAt H q.d c ru nu) : CaseAt H' q.d c ru nu := by
  obtain ⟨wa, sa, nd, h1, h2, h3, h4, h5, h6⟩ := h
  exact ⟨wa, sa, nd, k.kp _ _ h1 h5 (k.d1.nl h1), k.tk _ _ h2, k.tk _ _ h3, k.kp _ _ h4 h6 (k.d1.nl h4), h5, h6⟩
theorem mergeK_new : ∀ (more acc : List (Key × V)), ((acc ++ more).map (·.1)).Nodup → mergeK acc more = acc ++ more
  | [], acc, _ => by rw [List.append_nil]; rfl
  | p :: r, acc, h => by
    show mergeK (putK acc p.1 p.2) r = _
    have hn : valV acc p.1 = none := by
      cases e : valV acc p.1 with
      | none => rfl
      | some v =>
        exfalso
        rw [List.map_append, List.map_cons, List.nodup_append] at h
        obtain ⟨kv, h1, h2⟩ := Option.map_eq_some_iff.mp e
        have h3 := List.mem_of_find?_eq_some h1
        have h4 := List.find?_some h1
        simp only [decide_eq_true_eq] at h4
        exact h.2.2 p.1 (h4 ▸ List.mem_map.mpr ⟨kv, h3, rfl⟩) p.1 (by simp) rfl
    rw [putK_new _ hn, mergeK_new r (acc ++ [(p.1, p.2)]) (by simpa using h)]
    simp
theorem SoOf.ok {nu so : So} (h : SoOf nu so) (ok : SoOk nu) : SoOk so := ok.perm h.perm
theorem num_of {nu so : So} (nd : (nu.map (·.1)).Nodup) (h : SoOf nu so) {k : Str} (hk : k ∈ so.map (·.1)) : num so k = num nu k := by
  obtain ⟨p, hp, rfl⟩ := List.mem_map.mp hk
  rw [num_mem ((h.perm.map _).nodup_iff.mpr nd) hp, num_mem nd (h.perm.mem_iff.mp hp)]
theorem StOk.of {ru : Ru} {nu so : So} {st : Stn} (nd : (nu.map (·.1)).Nodup) (h : SoOf nu so) (ok : StOk ru nu st) : StOk ru so st :=
  ⟨ok.len, fun k b hm => (h.perm.map _).mem_iff.mpr (ok.kin k b hm), fun k hk => by rw [num_of nd h hk]; exact ok.few k ((h.perm.map _).mem_iff.mp hk)⟩
section
variable {P : Program} {w : World} {K : PySem.W.Frag} {mg : Str → Option Value} {base : Heap}
def pr_rule_of (K : PySem.W.Frag) : Pr := fun vs H Q => ∃ x c ru nu, vs = [.ref c] ∧ CaseAt H x c ru nu ∧ RuOk ru ∧ ∀ r H', Same H H' → RuAt K H' r ru → Q (.ref r) H'
theorem sc_l_rule_of : FnScope ["_law_case"] ["_law_case"] (defScope s_l_rule_of) := ⟨rfl, rfl, rfl, by decide +kernel, rfl, by decide +kernel, by decide +kernel⟩
theorem ok_l_rule_of (T : T K mg) : Ok P w K mg base 6 (He.ga K "_law_rule_of") (pr_rule_of K) := by
  refine Dn.ok T.l_rule_of sc_l_rule_of (fun _ _ _ _ _ _ us hl => match us, hl with | [_], _ => rfl) (fun vs H Q h => ?_) fun cdv A outer s H vs Q E hr h => ?_
  · obtain ⟨_, _, _, _, rfl, _⟩ := h
    rfl
  obtain ⟨x0, c, ru, nu, rfl, ⟨wa, sa, nd, h1, h2, h3, h4, _⟩, ok, h⟩ := h
  obtain ⟨fdR, FR, bR⟩ := ok_Rule_init (P := P) (w := w) (base := base) T
  refine ⟨_, (pss_one (ps_ret (pe_make T.mRule FR (hr.mono (by decide)) rfl T.gRule bR .nil pass0 (pa_cons (pe_dget (hu_of hr) (pv 0) pe_str (fun _ _ => rfl)) (pa_cons (pe_dget (hu_of hr) (pv 0) pe_str (fun _ _ => rfl)) (pa_cons (pe_dget (hu_of hr) (pv 0) pe_str (fun _ _ => rfl)) pa_nil)))))), ?_⟩
  refine ⟨_, rfl, c, _, rfl, DGet.k (k := .inr "weights") h1, _, rfl, c, _, rfl, DGet.k (k := .inr "skipped") h1, _, rfl, c, _, rfl, DGet.k (k := .inr "spread") h1, ?_⟩
  intro x dx hx hdx ne
  have sx : Same H (upd (upd H dx (.own x)) x (.ins (He.ga K "Rule") dx [])) := fun b o e => by
    rw [upd_ne (ne_of_none e hx), upd_ne (ne_of_none e hdx)]
    exact e
  exact ⟨x, dx, wa, sa, ru, rfl, upd_same, sx _ _ h2, sx _ _ h3, ok, fun H7 k7 R7 => ⟨rfl, h x H7 (fun b o e => k7 b o (sx _ _ e) (ne_of_none e hx)) R7⟩⟩
def pr_songs_in (K : PySem.W.Frag) : Pr := fun vs H Q => ∃ x c ru nu, vs = [.ref c] ∧ CaseAt H x c ru nu ∧ SoOk nu ∧ ∀ o so H', Same H H' → SoOf nu so → SoAt K H' o so → Q (.ref o) H'
theorem items_same {H H' : Hp} {p : Addr} {ts : List Addr} (k : ∀ b o, H b = some o → H' b = some o) : Same H H' := k
theorem DI_dict {nu : So} (nd : (nu.map (·.1)).Nodup) : mergeK [] (DI (ks nu)) = DI (ks nu) := by
  rw [mergeK_new _ [] (by rw [List.nil_append, DI_keys]; exact ks_nodup nd)]
  rfl
theorem sc_l_songs_in : FnScope ["_law_case"] ["_law_case"] (defScope s_l_songs_in) := ⟨rfl, rfl, rfl, by decide +kernel, rfl, by decide +kernel, by decide +kernel⟩
theorem ok_l_songs_in (T : T K mg) : Ok P w K mg base 5 (He.ga K "_law_songs_in") (pr_songs_in K) := by
  refine Dn.ok T.l_songs_in sc_l_songs_in (fun _ _ _ _ _ _ us hl => match us, hl with | [_], _ => rfl) (fun vs H Q h => ?_) fun cdv A outer s H vs Q E hr h => ?_
  · obtain ⟨_, _, _, _, rfl, _⟩ := h
    rfl
  obtain ⟨x0, c, ru, nu, rfl, ⟨wa, sa, nd, h1, h2, h3, h4, _⟩, ok, h⟩ := h
  obtain ⟨fdS, FS, bS⟩ := ok_Songs_init (P := P) (w := w) (base := base) T
  refine ⟨_, (pss_one (ps_ret (pe_make T.mSongs FS (hr.mono (by decide)) rfl T.gSongs bS .nil pass0 (pa_cons (pe_callTy (call_dictP rfl) rfl T.z_dict b_dict (pa_cons (LiI.pe_listItems rfl (pe_dget (hu_of hr) (pv 0) pe_str (fun _ _ => rfl)) rfl T.z_list b_list) pa_nil)) pa_nil)))), ?_⟩
  refine ⟨_, rfl, c, _, rfl, DGet.k (k := .inr "numbers") h1, nd, _, rfl, h4, fun H1 p ts k1 hp hts npts hl pts => ?_⟩
  have s1 : Same H H1 := k1
  refine ⟨p, ts, DI (ks nu), rfl, SqL.of hl, Paired.mapP pts fun _ _ z => SqT.of z, fun d hd => ?_⟩
  rw [DI_dict ok.nd]
  intro x dx hx hdx ne
  have s2 := s1.up hd (o := .dK (DI (ks nu)))
  have sx : Same (upd H1 d (.dK (DI (ks nu)))) (upd (upd (upd H1 d (.dK (DI (ks nu)))) dx (.own x)) x (.ins (He.ga K "Songs") dx [])) := fun b o e => by
    rw [upd_ne (ne_of_none e hx), upd_ne (ne_of_none e hdx)]
    exact e
  exact ⟨x, dx, d, nu, rfl, upd_same, sx _ _ upd_same, ok, fun H7 so k7 of R7 => ⟨rfl, h x so H7 (fun b o e => k7 b o (sx _ _ (s2 _ _ e)) (ne_of_none (s2 _ _ e) hx)) of R7⟩⟩
/-! ### a standing is drawn -/
def lft (nu : So) (its : Stn) : So := nu.map fun p => (p.1, p.2 - cnt its p.1)
theorem lft_keys (nu : So) (its : Stn) : (lft nu its).map (·.1) = nu.map (·.1) := by simp [lft, Function.comp_def]
theorem lft_none (nu : So) (its : Stn) : lft nu (its ++ [none]) = lft nu its := by
  unfold lft
  refine List.map_congr_left fun p _ => ?_
  rw [cnt_snoc]
  simp [itKd]
theorem lft_put {nu : So} {its : Stn} {k : Str} {b : Bool} {m : Int} (nd : (nu.map (·.1)).Nodup) (hk : (k, m) ∈ lft nu its) : putI (ks (lft nu its)) (.inr k) (m - 1) = ks (lft nu (its ++ [some (k, b)])) := by
  unfold putI
  have hany : ((ks (lft nu its)).any fun p => decide (p.1 = Sum.inr k)) = true := List.any_eq_true.mpr ⟨(.inr k, m), List.mem_map.mpr ⟨(k, m), hk, rfl⟩, by simp⟩
  rw [if_pos hany]
  unfold lft ks
  simp only [List.map_map]
  refine List.map_congr_left fun p hp => ?_
  simp only [Function.comp_def]
  rw [cnt_snoc]
  by_cases e : p.1 = k
  · obtain ⟨q, hq, e2⟩ := List.mem_map.mp hk
    cases e2
    have hn1 := num_mem nd hp
    have hn2 := num_mem nd hq
    rw [e] at hn1
    rw [hn1] at hn2
    rw [if_pos (by rw [e]), e]
    simp [itKd]
    omega
  · have e' : ¬ k = p.1 := fun z => e z.symm
    simp [itKd, e, e']
theorem strs_dp {K : PySem.W.Frag} {H : Hp} : ∀ ns : List Str, DpAll K H (ns.map V.str) (ns.map PyData.str)
  | [] => .nil
  | n :: r => .cons (.str n) (strs_dp r)
theorem strs_plain : ∀ ns : List Str, PyData.plainAll (ns.map PyData.str) = true
  | [] => by simp [PyData.plainAll]
  | n :: r => by simp [PyData.plainAll, PyData.plain, strs_plain r]
theorem strs_depth : ∀ ns : List Str, PyData.depthAll (ns.map PyData.str) ≤ 0
  | [] => by simp [PyData.depthAll]
  | n :: r => by
    have := strs_depth r
    simp only [List.map_cons, PyData.depthAll, PyData.depth]
    omega
def pr_any_standing : Pr := fun vs H Q => ∃ (q : Dq) (c : Addr) (ru : Ru) (nu : So), vs = [.ref q.d, .ref c] ∧ DrAt H q ∧ CaseAt H q.d c ru nu ∧ RuOk ru ∧ SoOk nu ∧ ∀ t st H', Sm q H H' → StAt H' t st → StOk ru nu st → Q (.ref t) H'
theorem sc_l_any_standing : FnScope ["_law_draw", "_law_case", "_law_left", "_law_found", "_law_age", "_law_some", "_law_kind"] ["_law_draw", "_law_case"] (defScope s_l_any_standing) := ⟨rfl, rfl, rfl, by decide +kernel, rfl, by decide +kernel, by decide +kernel⟩
theorem ok_l_any_standing (T : T K mg) : Ok P w K mg base 3 (He.ga K "_law_any_standing") pr_any_standing := by
  refine Dn.ok T.l_any_standing sc_l_any_standing (fun _ _ _ _ _ _ us hl => match us, hl with | [_, _], _ => rfl) (fun vs H Q h => ?_) fun cdv A outer s H vs Q E hr h => ?_
  · obtain ⟨_, _, _, _, rfl, _⟩ := h
    rfl
  obtain ⟨q, c, ru, nu, rfl, DR, CA, rk, ok, h⟩ := h
  obtain ⟨wa, sa, nd, h1, h2, h3, h4, ncx, nnx⟩ := id CA
  have ndk := ks_nodup ok.nd
  have w1 := rk.w1
  have w4 := rk.w4
  have l3 := ok.l3
  refine ⟨_, (pss_cons (ps_asg (pe_tup (pa_cons (pe_callTy (call_dictP rfl) rfl T.z_dict b_dict (pa_cons (LiI.pe_listItems rfl (pe_dget (hu_of hr) (pv 1) pe_str (fun _ _ => rfl)) rfl T.z_list b_list) pa_nil)) (pa_cons (pe_lst pa_nil) pa_nil))) (pg_tup rfl (pgs_cons (pg_name (i := 2) sc_l_any_standing.nd rfl (by first | exact .inl rfl | exact .inr rfl)) (pgs_cons (pg_name (i := 3) sc_l_any_standing.nd rfl (by first | exact .inl rfl | exact .inr rfl)) pgs_nil)))) (pss_cons (ps_for PassesOwn.never rfl (pi_range1 rfl T.z_range (pa_cons (pe_op op_sub (pe_callB (lenK (K := K) rfl) rfl T.z_len b_len (pa_cons (pe_dget (hu_of hr) (pv 1) pe_str (fun _ _ => rfl)) pa_nil)) pe_int) pa_nil)) (pg_name (i := 4) sc_l_any_standing.nd rfl (by first | exact .inl rfl | exact .inr rfl)) (pss_cons (ps_setLc (i := 5) (own := [("_law_kind", 6)]) (g := gName 6) rfl sc_l_any_standing.nd rfl rfl (sw_true rfl rfl rfl (by decide +kernel)) (piL (K := K) rfl (pe_callB (call_sortedD rfl) rfl T.z_sorted b_sorted (pa_cons (pv 2) pa_nil))) (blkOk_by (N := ["_law_draw", "_law_case", "_law_left", "_law_found", "_law_age", "_law_some", "_law_kind"]) (sc := defScope s_l_any_standing) (by decide +kernel)) (fun _ _ _ _ _ => pg_name (i := 6) sc_l_any_standing.nd rfl (by first | exact .inl rfl | exact .inr rfl)) (fun _ _ _ _ _ => (pts_one (pt_cmpR op_gt (pe_dget (hu_of hr) (pv 2) (pv 6) (fun _ _ => rfl)) pe_int (nomark _)))) (fun _ _ _ _ _ => (pv 6))) (pss_one (ps_if (PW.pt (pw_or (pt_cmpR (op_eqP (K := K) rfl (by exact hr.units)) (pv 5) (pe_lst pa_nil) (nomark _)) (pw_or1 (pt_cmpR op_eq (pe_cal (ok_l_take T) (hr.mono (by decide)) rfl T.l_take (pa_cons (pv 0) (pa_cons pe_int pa_nil))) pe_int (nomark _))))) (pss_one (ps_expr (pe_bm PySem.F.plainAttrs_list PySem.F.slot_list_append PySem.F.type_list_append mt_append (pv 3) (pa_cons (pe_tup pa_nil) pa_nil)))) (pss_cons (ps_set (i := 6) sc_l_any_standing.nd rfl (by first | exact .inl rfl | exact .inr rfl) (pe_cal (ok_l_pick T) (hr.mono (by decide)) rfl T.l_pick (pa_cons (pv 0) (pa_cons (pv 5) pa_nil)))) (pss_cons (ps_dput (hu_of hr) (pv 2) (pv 6) (pe_op op_sub (pe_dget (hu_of hr) (pv 2) (pv 6) (fun _ _ => rfl)) pe_int) rfl) (pss_one (ps_expr (pe_bm PySem.F.plainAttrs_list PySem.F.slot_list_append PySem.F.type_list_append mt_append (pv 3) (pa_cons (pe_tup (pa_cons (pv 6) (pa_cons (pe_cmpR op_eq (pe_cal (ok_l_take T) (hr.mono (by decide)) rfl T.l_take (pa_cons (pv 0) (pa_cons pe_int pa_nil))) pe_int (nomark _)) pa_nil))) pa_nil)))))))))) (pss_one (ps_ret (pe_callTy (tupK (K := K) rfl) rfl T.z_tuple b_tuple (pa_cons (pv 3) pa_nil)))))), ?_⟩
  refine ⟨_, rfl, c, _, rfl, DGet.k (k := .inr "numbers") h1, nd, _, rfl, h4, fun H1 p ts k1 hp hts npts hl pts => ?_⟩
  have s1 : Same H H1 := k1
  refine ⟨p, ts, DI (ks nu), rfl, SqL.of hl, Paired.mapP pts fun _ _ z => SqT.of z, fun L hL => ?_⟩
  rw [DI_dict ok.nd]
  refine ⟨Nat.zero_le _, fun F hF => ⟨by show 2 ≤ sizeLine; decide, fun tt htt => ⟨tt, _, rfl, SqT.of upd_same, rfl, _, _, rfl, _, _, rfl, rfl, ?_⟩⟩⟩
  have s2 := s1.up hL (o := .dK (DI (ks nu)))
  have s3 := s2.up hF (o := .lst [])
  have s4 := s3.up htt (o := .tup [.ref L, .ref F])
  have hL0 : H L = none := s1.free hL
  have hF0 : H F = none := s2.free hF
  have nLF : L ≠ F := ne_of_none upd_same hF
  obtain ⟨nLd, nLl⟩ := DR.ne hL0
  obtain ⟨nFd, nFl⟩ := DR.ne hF0
  refine ⟨_, rfl, c, _, rfl, DGet.k (k := .inr "weights") (s4 _ _ h1), _, ru.w.length, rfl, .inr ⟨_, SqT.of (s4 _ _ h2), (List.length_map _).symm⟩, _, _, rfl, rfl, (ru.w.length : Int) - 1, rfl, by omega, by omega, ?_⟩
  have en : ((ru.w.length : Int) - 1).toNat = ru.w.length - 1 := by omega
  rw [en]
  have hL4 : (upd (upd (upd H1 L (.dK (DI (ks nu)))) F (.lst [])) tt (.tup [.ref L, .ref F])) L = some (.dK (DI (ks (lft nu [])))) := by
    rw [upd_ne (ne_of_none (by rw [upd_ne nLF]; exact upd_same) htt), upd_ne nLF, upd_same]
    have e : lft nu [] = nu := by simp [lft, cnt]
    rw [e]
  refine for_it walk_range (fun i σ H' => ∃ v4 v5 v6 its us, σ = [some (.ref q.d), some (.ref c), some (.ref L), some (.ref F), v4, v5, v6] ∧ Sm q H H' ∧ H' L = some (.dK (DI (ks (lft nu its)))) ∧ H' F = some (.lst us) ∧ Paired (ItAt H') us its ∧ its.length = i ∧ (∀ p ∈ lft nu its, 0 ≤ p.2) ∧ (∀ k b, some (k, b) ∈ its → k ∈ nu.map (·.1)))
    ⟨none, none, none, [], [], rfl, DR.sm s4, hL4, (sms (upd (upd H1 L (.dK (DI (ks nu)))) F (.lst []))).up htt _ _ upd_same, .nil, rfl, fun p hp => ?_, fun k b hm => by cases hm⟩ (fun _ _ _ _ _ => trivial) ?_ ?_
  · have e : lft nu [] = nu := by simp [lft, cnt]
    rw [e] at hp
    exact (ok.np p hp).1
  · rintro i x σ H2 H3 hi ⟨v4, v5, v6, its, us, rfl, sA, hLA, hFA, pus, hil, pos, kin⟩ ⟨rfl, rfl⟩
    have klen : (DI (ks (lft nu its))).length = nu.length := by rw [DI_length]; simp [lft]
    have ndl : ((lft nu its).map (·.1)).Nodup := by rw [lft_keys]; exact ok.nd
    refine ⟨_, rfl, L, _, (lft nu its).map (·.1), rfl, .inl hLA, by rw [DI_keys, ks_keys]; simp, by rw [List.length_map]; simp [lft]; omega, fun ys p2 py sy hp2 => ⟨p2, rfl, ⟨_, SqL.of upd_same⟩, fun D hD => ?_⟩⟩
    have sB := (sms H3).up hp2 (o := .lst (ys.map V.str))
    refine lc_go rel_same (walk_list (xs := ys.map V.str)) hD (sms _) (fun i => (ys.take i).filter fun k => decide (0 < num (lft nu its) k)) (fun _ v n => v = V.str n) rfl (fun H5 s5 => SqL.of (s5 _ _ upd_same)) ?_ ?_
    · rintro i2 x2 H5 H6 hi2 I2 ⟨rfl, e2⟩
      rw [List.getElem?_map] at e2
      obtain ⟨y, hy, rfl⟩ := Option.map_eq_some_iff.mp e2
      have hym := py.mem_iff.mp (List.mem_of_getElem? hy)
      obtain ⟨n, en2⟩ := ks_mem hym
      have enum : num (lft nu its) y = n := by unfold num; rw [en2]; rfl
      have hi3 : i2 < 1000 := by
        have := (List.getElem?_eq_some_iff.mp hy).1
        have := py.length_eq
        rw [List.length_map] at this
        simp [lft] at this
        omega
      refine ⟨rfl, _, rfl, _, rfl, L, _, rfl, DGet.at1 (k := .inr y) ((sB.trans I2.rl) _ _ hLA) en2, _, _, rfl, rfl, _, rfl, ?_⟩
      by_cases q2 : 0 < n
      · refine iteTe (by simpa using q2) ⟨_, rfl, I2.step rel_same hD tkStr hi3 (sms _) (z := y) ?_ rfl⟩
        rw [take_snoc hy, List.filter_append]
        simp [enum, q2]
      · refine iteFe (by simpa using q2) (I2.skip rel_same hD tkStr (sms _) ?_)
        rw [take_snoc hy, List.filter_append]
        simp [enum, q2]
    intro us2 H5 h5 s5 p5
    have hns : ∃ ns : List Str, us2 = ns.map V.str ∧ ∀ k ∈ ns, ∃ m, (k, m) ∈ lft nu its ∧ 0 < m := by
      refine ⟨_, paired_eq p5, fun k hk => ?_⟩
      rw [List.take_of_length_le (by simp)] at hk
      obtain ⟨hk1, hk2⟩ := List.mem_filter.mp hk
      obtain ⟨p, hp, rfl⟩ := List.mem_map.mp (py.mem_iff.mp hk1)
      refine ⟨p.2, hp, ?_⟩
      rw [num_mem ndl hp] at hk2
      simpa using hk2
    obtain ⟨ns, ens, hns⟩ := hns
    have nsl : ns.length < 1000 := by
      have e := congrArg List.length ens
      have l2 := Paired.length p5
      rw [List.length_map] at e
      rw [← e, l2]
      have := List.length_filter_le (fun k => decide (0 < num (lft nu its) k)) (ys.take (ys.map V.str).length)
      rw [List.length_take] at this
      have := py.length_eq
      rw [List.length_map] at this
      simp [lft] at this
      omega
    rw [ens] at h5
    have sC := sB.trans s5
    have sAC := sA.same sC
    have hLC := sC _ _ hLA
    have hFC := sC _ _ hFA
    have lus : us.length = its.length := Paired.length pus
    have hD5 : H3 D = none := sB.free hD
    have nDl : D ≠ q.l := (sA.ne2 hD5).2
    refine ⟨_, rfl, Nat.zero_le _, fun e he => ?_⟩
    have s6 := (sms H5).up he (o := .lst [])
    refine ⟨_, _, .lst (SqL.of (s6 _ _ h5)) (strs_dp ns), .lst (SqL.of upd_same) .nil, plain_list (strs_plain ns), nil_plain, Nat.le_trans (depth_list (strs_depth ns)) (by decide), _, rfl, ?_⟩
    have sE := sAC.same s6
    have hLE := s6 _ _ hLC
    have hFE := s6 _ _ hFC
    have hDE := s6 _ _ h5
    have pE : Paired (ItAt (upd H5 e (.lst []))) us its := Paired.mapP pus fun _ _ z => z.mono (sC.trans s6).tk
    generalize hHE : upd H5 e (.lst []) = HE at *
    -- found.append(())
    have skip : ∀ (HK : Hp), Sm q HE HK → ∀ p, HK p = none → Sm q H (upd (upd HK p (.tup [])) F (.lst (us ++ [.ref p]))) ∧ (upd (upd HK p (.tup [])) F (.lst (us ++ [.ref p]))) L = some (.dK (DI (ks (lft nu (its ++ [none]))))) ∧ Paired (ItAt (upd (upd HK p (.tup [])) F (.lst (us ++ [.ref p])))) (us ++ [.ref p]) (its ++ [none]) ∧ (∀ p ∈ lft nu (its ++ [none]), 0 ≤ p.2) ∧ (∀ k b, some (k, b) ∈ its ++ [none] → k ∈ nu.map (·.1)) := by
      intro HK sK p hp
      have hFK := sK.kp _ _ hFE nFd nFl
      have hLK := sK.kp _ _ hLE nLd nLl
      have k2 : Tk (upd HK p (.tup [])) (upd (upd HK p (.tup [])) F (.lst (us ++ [.ref p]))) := Tk.at ((sms HK).up hp _ _ hFK) (fun xs z => by cases z)
      refine ⟨((sE.trans sK).up hp).new hF0, ?_, ?_, ?_, fun k b hm => ?_⟩
      · rw [lft_none, upd_ne nLF, upd_ne (ne_of_none hLK hp)]
        exact hLK
      · exact paired_snoc (show ItAt _ (V.ref p) none from ⟨p, rfl, k2 _ _ upd_same⟩) (Paired.mapP pE fun _ _ z => z.mono ((sK.tk.trans (Tk.new hp)).trans k2))
      · rw [lft_none]; exact pos
      · rcases List.mem_append.mp hm with h1 | h1
        · exact kin k b h1
        · simp at h1
    have lsz : us.length < sizeLine := by rw [lus, hil, sizeLine_eq]; omega
    cases ns with
    | nil =>
      refine iteTe (by rw [eqv_nil]; rfl) ?_
      refine iteT ?_
      refine ⟨_, rfl, .inl ⟨rfl, _, SqL.of hFE⟩, Nat.zero_le _, fun p hp => ⟨F, us, _, rfl, rfl, (sms HE).up hp _ _ hFE, lsz, ?_⟩⟩
      obtain ⟨a1, a2, a3, a4, a5⟩ := skip HE (sE.d2.sm (sms _)) p hp
      exact ⟨_, _, _, its ++ [none], us ++ [.ref p], rfl, a1, a2, upd_same, a3, by rw [List.length_append, hil]; rfl, a4, a5⟩
    | cons k0 ns' =>
      refine iteFe (by rw [eqv_nil]; rfl) ?_
      refine ⟨_, rfl, q, 3, rfl, sE.d2, by decide, by decide, fun k HK sK kk0 kk1 => ⟨rfl, _, rfl, ?_⟩⟩
      have hFK := sK.kp _ _ hFE nFd nFl
      have hLK := sK.kp _ _ hLE nLd nLl
      have hDK := sK.kp _ _ hDE (sE.d2.lstd hDE) nDl
      by_cases k00 : k = 0
      · refine iteTe (by simpa using k00) ?_
        refine ⟨_, rfl, .inl ⟨rfl, _, SqL.of hFK⟩, Nat.zero_le _, fun p hp => ⟨F, us, _, rfl, rfl, (sms HK).up hp _ _ hFK, lsz, ?_⟩⟩
        obtain ⟨a1, a2, a3, a4, a5⟩ := skip HK sK p hp
        exact ⟨_, _, _, its ++ [none], us ++ [.ref p], rfl, a1, a2, upd_same, a3, by rw [List.length_append, hil]; rfl, a4, a5⟩
      · refine iteFe (by simpa using k00) ?_
        have sEK := sE.trans sK
        refine ⟨_, rfl, _, rfl, q, sEK.d2, .inl ⟨D, _, rfl, hDK, nDl, by simp, by rw [List.length_map]; exact nsl, fun v HM sM hv => ?_⟩⟩
        obtain ⟨kd, hkd, rfl⟩ := List.mem_map.mp hv
        obtain ⟨m, hm, m0⟩ := hns kd hkd
        have lkm : look (ks (lft nu its)) (.inr kd) = some m := look_mem (ks_nodup ndl) (List.mem_map.mpr ⟨(kd, m), hm, rfl⟩)
        have hLM := sM.kp _ _ hLK nLd nLl
        have hFM := sM.kp _ _ hFK nFd nFl
        have sEM := sEK.trans sM
        refine ⟨_, rfl, _, rfl, L, _, rfl, DGet.at1 (k := .inr kd) hLM lkm, _, _, rfl, rfl, _, rfl, _, rfl, L, _, rfl, DPut.k (k := .inr kd) hLM (by rw [klen, sizeLine_eq]; omega), ?_⟩
        have hFN : (upd HM L (.dK (putK (DI (ks (lft nu its))) (.inr kd) (.int (m - 1))))) F = some (.lst us) := by rw [upd_ne (Ne.symm nLF)]; exact hFM
        have sN : Sm q H (upd HM L (.dK (putK (DI (ks (lft nu its))) (.inr kd) (.int (m - 1))))) := sEM.new hL0
        have kN : Tk HM (upd HM L (.dK (putK (DI (ks (lft nu its))) (.inr kd) (.int (m - 1))))) := Tk.at hLM (fun xs z => by cases z)
        refine ⟨_, rfl, .inl ⟨rfl, _, SqL.of hFN⟩, _, rfl, _, rfl, q, 2, rfl, sN.d2, by decide, by decide, fun k2 HO sO kk2 kk3 => ⟨rfl, by show 2 ≤ sizeLine; decide, fun p hp => ?_⟩⟩
        have hFO := sO.kp _ _ hFN nFd nFl
        have hLO := sO.kp _ _ upd_same nLd nLl
        refine ⟨F, us, _, rfl, rfl, (sms HO).up hp _ _ hFO, lsz, ?_⟩
        have k2' : Tk (upd HO p (.tup [.str kd, .bl (decide (V.int k2 = V.int 0))])) (upd (upd HO p (.tup [.str kd, .bl (decide (V.int k2 = V.int 0))])) F (.lst (us ++ [.ref p]))) := Tk.at ((sms HO).up hp _ _ hFO) (fun xs z => by cases z)
        refine ⟨_, _, _, its ++ [some (kd, decide (V.int k2 = V.int 0))], us ++ [.ref p], rfl, ((sN.trans sO).up hp).new hF0, ?_, upd_same, ?_, by rw [List.length_append, hil]; rfl, ?_, ?_⟩
        · rw [upd_ne nLF, upd_ne (ne_of_none hLO hp), hLO, DI_putI, lft_put ok.nd hm]
        · exact paired_snoc (show ItAt _ (V.ref p) (some (kd, decide (V.int k2 = V.int 0))) from ⟨p, rfl, k2' _ _ upd_same⟩) (Paired.mapP pE fun _ _ z => z.mono (((((sK.tk.trans sM.tk).trans kN).trans sO.tk).trans (Tk.new hp)).trans k2'))
        · intro pp hpp
          obtain ⟨p0, hp0, rfl⟩ := List.mem_map.mp hpp
          have h0 := pos (p0.1, p0.2 - cnt its p0.1) (List.mem_map.mpr ⟨p0, hp0, rfl⟩)
          simp only at h0 ⊢
          rw [cnt_snoc]
          by_cases e : p0.1 = kd
          · obtain ⟨q0, hq0, e2⟩ := List.mem_map.mp hm
            cases e2
            have hn1 := num_mem ok.nd hp0
            have hn2 := num_mem ok.nd hq0
            rw [e, hn2] at hn1
            rw [e]
            simp [itKd]
            omega
          · have e' : ¬ kd = p0.1 := fun z => e z.symm
            simp [itKd, e']
            omega
        · intro k' b' hm'
          rcases List.mem_append.mp hm' with h1 | h1
          · exact kin k' b' h1
          · simp at h1
            rw [h1.1]
            have hz : kd ∈ (lft nu its).map (·.1) := List.mem_map.mpr ⟨(kd, m), hm, rfl⟩
            rw [lft_keys] at hz
            exact hz
  · rintro σ H2 ⟨v4, v5, v6, its, us, rfl, sA, hLA, hFA, pus, hil, pos, kin⟩
    refine ⟨_, rfl, F, us, rfl, .inl ⟨SqL.of hFA, fun t ht => ?_⟩⟩
    refine h t its _ (sA.up ht) ⟨us, upd_same, Paired.mapP pus fun _ _ z => z.mono (Tk.new ht)⟩ ⟨by rw [hil]; omega, kin, fun k hk => ?_⟩
    obtain ⟨p0, hp0, rfl⟩ := List.mem_map.mp hk
    have h0 := pos (p0.1, p0.2 - cnt its p0.1) (List.mem_map.mpr ⟨p0, hp0, rfl⟩)
    rw [num_mem ok.nd hp0]
    simp only at h0
    omega
end
end U

set_option Elab.async false
set_option linter.all false
set_option maxRecDepth 100000
set_option maxHeartbeats 4000000
/-! A case is drawn. -/
namespace U
open PySem PySem.Spec PyProof.Rows L2
theorem menu_ok {q : Dq} {H H1 : Hp} {a1 a2 a3 a4 a5 a6 : Addr} (s : Sm q H H1) (h1 : H1 a1 = none) (h2 : (upd H1 a1 (.lst [.int 0, .int 1])) a2 = none) (h3 : (upd (upd H1 a1 (.lst [.int 0, .int 1])) a2 (.lst [.int 0, .int 0, .int 1, .int 2])) a3 = none) (h4 : (upd (upd (upd H1 a1 (.lst [.int 0, .int 1])) a2 (.lst [.int 0, .int 0, .int 1, .int 2])) a3 (.lst [.int 1, .int 2, .int 3])) a4 = none) (h5 : (upd (upd (upd (upd H1 a1 (.lst [.int 0, .int 1])) a2 (.lst [.int 0, .int 0, .int 1, .int 2])) a3 (.lst [.int 1, .int 2, .int 3])) a4 (.lst [.int 0, .int 1, .int 5, .int 9])) a5 = none) (h6 : (upd (upd (upd (upd (upd H1 a1 (.lst [.int 0, .int 1])) a2 (.lst [.int 0, .int 0, .int 1, .int 2])) a3 (.lst [.int 1, .int 2, .int 3])) a4 (.lst [.int 0, .int 1, .int 5, .int 9])) a5 (.lst [.int 0, .int 3])) a6 = none) :
    Sm q H (upd (upd (upd (upd (upd (upd H1 a1 (.lst [.int 0, .int 1])) a2 (.lst [.int 0, .int 0, .int 1, .int 2])) a3 (.lst [.int 1, .int 2, .int 3])) a4 (.lst [.int 0, .int 1, .int 5, .int 9])) a5 (.lst [.int 0, .int 3])) a6 (.lst [.ref a1, .ref a2, .ref a3, .ref a4, .ref a5])) ∧ (a6 ≠ q.l) ∧ ∀ v ∈ [V.ref a1, V.ref a2, V.ref a3, V.ref a4, V.ref a5], ∃ (mn : Addr) (ms : List Int), v = .ref mn ∧ (upd (upd (upd (upd (upd (upd H1 a1 (.lst [.int 0, .int 1])) a2 (.lst [.int 0, .int 0, .int 1, .int 2])) a3 (.lst [.int 1, .int 2, .int 3])) a4 (.lst [.int 0, .int 1, .int 5, .int 9])) a5 (.lst [.int 0, .int 3])) a6 (.lst [.ref a1, .ref a2, .ref a3, .ref a4, .ref a5])) mn = some (.lst (ms.map V.int)) ∧ mn ≠ q.d ∧ mn ≠ q.l ∧ ms ≠ [] ∧ ms.length ≤ 4 ∧ ∀ x ∈ ms, 0 ≤ x ∧ x ≤ 9 := by
  have c1 := s.up h1 (o := (.lst [.int 0, .int 1]))
  have c2 := c1.up h2 (o := (.lst [.int 0, .int 0, .int 1, .int 2]))
  have c3 := c2.up h3 (o := (.lst [.int 1, .int 2, .int 3]))
  have c4 := c3.up h4 (o := (.lst [.int 0, .int 1, .int 5, .int 9]))
  have c5 := c4.up h5 (o := (.lst [.int 0, .int 3]))
  have c6 := c5.up h6 (o := (.lst [.ref a1, .ref a2, .ref a3, .ref a4, .ref a5]))
  refine ⟨c6, (c5.ne2 h6).2, fun v hv => ?_⟩
  simp only [List.mem_cons, List.not_mem_nil, or_false] at hv
  rcases hv with rfl | rfl | rfl | rfl | rfl
  · exact ⟨a1, [0, 1], rfl, ((((((sms (upd H1 a1 (.lst [.int 0, .int 1]))).up h2).up h3).up h4).up h5).up h6) _ _ upd_same, (s.ne2 h1).1, (s.ne2 h1).2, by simp, by decide, by decide⟩
  · exact ⟨a2, [0, 0, 1, 2], rfl, (((((sms (upd (upd H1 a1 (.lst [.int 0, .int 1])) a2 (.lst [.int 0, .int 0, .int 1, .int 2]))).up h3).up h4).up h5).up h6) _ _ upd_same, (c1.ne2 h2).1, (c1.ne2 h2).2, by simp, by decide, by decide⟩
  · exact ⟨a3, [1, 2, 3], rfl, ((((sms (upd (upd (upd H1 a1 (.lst [.int 0, .int 1])) a2 (.lst [.int 0, .int 0, .int 1, .int 2])) a3 (.lst [.int 1, .int 2, .int 3]))).up h4).up h5).up h6) _ _ upd_same, (c2.ne2 h3).1, (c2.ne2 h3).2, by simp, by decide, by decide⟩
  · exact ⟨a4, [0, 1, 5, 9], rfl, (((sms (upd (upd (upd (upd H1 a1 (.lst [.int 0, .int 1])) a2 (.lst [.int 0, .int 0, .int 1, .int 2])) a3 (.lst [.int 1, .int 2, .int 3])) a4 (.lst [.int 0, .int 1, .int 5, .int 9]))).up h5).up h6) _ _ upd_same, (c3.ne2 h4).1, (c3.ne2 h4).2, by simp, by decide, by decide⟩
  · exact ⟨a5, [0, 3], rfl, ((sms (upd (upd (upd (upd (upd H1 a1 (.lst [.int 0, .int 1])) a2 (.lst [.int 0, .int 0, .int 1, .int 2])) a3 (.lst [.int 1, .int 2, .int 3])) a4 (.lst [.int 0, .int 1, .int 5, .int 9])) a5 (.lst [.int 0, .int 3]))).up h6) _ _ upd_same, (c4.ne2 h5).1, (c4.ne2 h5).2, by simp, by decide, by decide⟩

def PrAt (H : Hp) (v : V) (p : Str × Int) : Prop := ∃ a, v = .ref a ∧ H a = some (.tup [.str p.1, .int p.2])
theorem tkPr : TkR PrAt := fun k ⟨a, e, h⟩ => ⟨a, e, k _ _ h⟩
theorem prs_split {H : Hp} : ∀ {us : List V} {zs : So}, Paired (PrAt H) us zs → ∃ ps : List Addr, us = ps.map V.ref ∧ Paired (fun p (z : Str × Int) => H p = some (.tup [.str z.1, .int z.2])) ps zs
  | _, _, .nil => ⟨[], rfl, .nil⟩
  | _, _, .cons ⟨a, e, h⟩ t => by
    obtain ⟨ps, e2, h2⟩ := prs_split t
    exact ⟨a :: ps, by rw [e, e2]; rfl, .cons h h2⟩
theorem prs_dict {K : PySem.W.Frag} {H : Hp} : ∀ {ps : List Addr} {zs : So}, Paired (fun p (z : Str × Int) => H p = some (.tup [.str z.1, .int z.2])) ps zs → Paired (fun p kv => SqT K H p [kV kv.1, kv.2]) ps (DI (ks zs))
  | _, _, .nil => .nil
  | _, _, .cons h t => .cons (SqT.of h) (prs_dict t)
theorem at_map {α β : Type} {f : α → β} {xs : List α} {ys : List β} (hl : xs.length = ys.length) (h : ∀ (j : Nat) x, xs[j]? = some x → ys[j]? = some (f x)) : xs.map f = ys := by
  refine List.ext_getElem? fun j => ?_
  rw [List.getElem?_map]
  cases e : xs[j]? with
  | some x => exact (h j x e).symm
  | none =>
    have : ys[j]? = none := List.getElem?_eq_none (by rw [← hl]; exact List.getElem?_eq_none_iff.mp e)
    rw [this]
    rfl
theorem mem_p {α : Type} {p : α → Prop} {zs : List α} (h : ∀ (j : Nat) z, zs[j]? = some z → p z) : ∀ z ∈ zs, p z := fun z hz => by
  obtain ⟨j, hj, e⟩ := List.getElem_of_mem hz
  exact h j z (by rw [List.getElem?_eq_getElem hj, e])
section
variable {P : Program} {w : World} {K : PySem.W.Frag} {mg : Str → Option Value} {base : Heap}
def pr_drawn_case : Pr := fun vs H Q => ∃ (q : Dq) (mo : Int), vs = [.ref q.d, .int 4, .int 2, .int mo] ∧ DrAt H q ∧ 0 ≤ mo ∧ mo ≤ 8 ∧ ∀ c ru nu H', Sm q H H' → CaseAt H' q.d c ru nu → RuOk ru → (SoOk nu ∧ nu.length ≤ 2) → Q (.ref c) H'
theorem sc_l_drawn_case : FnScope ["_law_draw", "_law_cap", "_law_kinds", "_law_most", "_law_size", "_law_menu", "_law_weights", "_law_age", "_law_skipped", "_law_names", "_law_numbers", "_law_name"] ["_law_draw", "_law_cap", "_law_kinds", "_law_most"] (defScope s_l_drawn_case) := ⟨rfl, rfl, rfl, by decide +kernel, rfl, by decide +kernel, by decide +kernel⟩
theorem ok_l_drawn_case (T : T K mg) : Ok P w K mg base 4 (He.ga K "_law_drawn_case") pr_drawn_case := by
  refine Dn.ok T.l_drawn_case sc_l_drawn_case (fun _ _ _ _ _ _ us hl => match us, hl with | [_, _, _, _], _ => rfl) (fun vs H Q h => ?_) fun cdv A outer s H vs Q E hr h => ?_
  · obtain ⟨_, _, rfl, _⟩ := h
    rfl
  obtain ⟨q, mo, rfl, DR, mo0, mo8, h⟩ := h
  refine ⟨_, (pss_cons (ps_asg (pe_tup (pa_cons (pe_op op_add pe_int (pe_cal (ok_l_take T) (hr.mono (by decide)) rfl T.l_take (pa_cons (pv 0) (pa_cons (pv 1) pa_nil)))) (pa_cons (pe_cal (ok_l_pick T) (hr.mono (by decide)) rfl T.l_pick (pa_cons (pv 0) (pa_cons (pe_lst (pa_cons (pe_lst (pa_cons pe_int (pa_cons pe_int pa_nil))) (pa_cons (pe_lst (pa_cons pe_int (pa_cons pe_int (pa_cons pe_int (pa_cons pe_int pa_nil))))) (pa_cons (pe_lst (pa_cons pe_int (pa_cons pe_int (pa_cons pe_int pa_nil)))) (pa_cons (pe_lst (pa_cons pe_int (pa_cons pe_int (pa_cons pe_int (pa_cons pe_int pa_nil))))) (pa_cons (pe_lst (pa_cons pe_int (pa_cons pe_int pa_nil))) pa_nil)))))) pa_nil))) pa_nil))) (pg_tup rfl (pgs_cons (pg_name (i := 4) sc_l_drawn_case.nd rfl (by first | exact .inl rfl | exact .inr rfl)) (pgs_cons (pg_name (i := 5) sc_l_drawn_case.nd rfl (by first | exact .inl rfl | exact .inr rfl)) pgs_nil)))) (pss_cons (ps_set (i := 6) sc_l_drawn_case.nd rfl (by first | exact .inl rfl | exact .inr rfl) (pe_callTy (tupK (K := K) rfl) rfl T.z_tuple b_tuple (pa_cons (pe_lc (own := [("_law_age", 7)]) (g := gName 7) (tt := tYes) rfl sc_l_drawn_case.nd  (pi_range1 rfl T.z_range (pa_cons (pv 4) pa_nil)) (blkOk_by (N := ["_law_draw", "_law_cap", "_law_kinds", "_law_most", "_law_size", "_law_menu", "_law_weights", "_law_age", "_law_skipped", "_law_names", "_law_numbers", "_law_name"]) (sc := defScope s_l_drawn_case) (by decide +kernel)) (fun _ _ _ _ _ => pg_name (i := 7) sc_l_drawn_case.nd rfl (by first | exact .inl rfl | exact .inr rfl)) (fun _ _ _ _ _ => pts_nil) (fun _ _ _ _ _ => (pe_cal (ok_l_pick T) (hr.mono (by decide)) rfl T.l_pick (pa_cons (pv 0) (pa_cons (pv 5) pa_nil))))) pa_nil))) (pss_cons (ps_set (i := 8) sc_l_drawn_case.nd rfl (by first | exact .inl rfl | exact .inr rfl) (pe_callTy (tupK (K := K) rfl) rfl T.z_tuple b_tuple (pa_cons (pe_lc (own := [("_law_age", 7)]) (g := gName 7) (tt := tYes) rfl sc_l_drawn_case.nd  (pi_range1 rfl T.z_range (pa_cons (pe_op op_sub (pv 4) pe_int) pa_nil)) (blkOk_by (N := ["_law_draw", "_law_cap", "_law_kinds", "_law_most", "_law_size", "_law_menu", "_law_weights", "_law_age", "_law_skipped", "_law_names", "_law_numbers", "_law_name"]) (sc := defScope s_l_drawn_case) (by decide +kernel)) (fun _ _ _ _ _ => pg_name (i := 7) sc_l_drawn_case.nd rfl (by first | exact .inl rfl | exact .inr rfl)) (fun _ _ _ _ _ => pts_nil) (fun _ _ _ _ _ => (pe_cal (ok_l_pick T) (hr.mono (by decide)) rfl T.l_pick (pa_cons (pv 0) (pa_cons (pe_op op_cat (pv 5) (pe_lst (pa_cons pe_int pa_nil))) pa_nil))))) pa_nil))) (pss_cons (ps_set (i := 9) sc_l_drawn_case.nd rfl (by first | exact .inl rfl | exact .inr rfl) (pe_cal (ok_l_some_names T) (hr.mono (by decide)) rfl T.l_some_names (pa_cons (pv 0) (pa_cons (pe_op op_add pe_int (pe_cal (ok_l_take T) (hr.mono (by decide)) rfl T.l_take (pa_cons (pv 0) (pa_cons (pv 2) pa_nil)))) pa_nil)))) (pss_cons (ps_set (i := 10) sc_l_drawn_case.nd rfl (by first | exact .inl rfl | exact .inr rfl) (pe_callTy (call_dictP rfl) rfl T.z_dict b_dict (pa_cons (pe_lc (own := [("_law_name", 11)]) (g := gName 11) (tt := tYes) rfl sc_l_drawn_case.nd  (piL (K := K) rfl (pv 9)) (blkOk_by (N := ["_law_draw", "_law_cap", "_law_kinds", "_law_most", "_law_size", "_law_menu", "_law_weights", "_law_age", "_law_skipped", "_law_names", "_law_numbers", "_law_name"]) (sc := defScope s_l_drawn_case) (by decide +kernel)) (fun _ _ _ _ _ => pg_name (i := 11) sc_l_drawn_case.nd rfl (by first | exact .inl rfl | exact .inr rfl)) (fun _ _ _ _ _ => pts_nil) (fun _ _ _ _ _ => (pe_tup (pa_cons (pv 11) (pa_cons (pe_cal (ok_l_take T) (hr.mono (by decide)) rfl T.l_take (pa_cons (pv 0) (pa_cons (pe_op op_add (pv 3) pe_int) pa_nil))) pa_nil))))) pa_nil))) (pss_cons (ps_if (pt_cmpR op_eq (pe_callB (cr_sum rfl) rfl T.z_sum b_sum (pa_cons (pe_listVals rfl (pv 10) rfl T.z_list b_list) pa_nil)) pe_int (nomark _)) (pss_one (ps_dput (hu_of hr) (pv 10) (pe_ix (ixL (K := K) rfl) (pe_callTy (call_listD rfl) rfl T.z_list b_list (pa_cons (pv 10) pa_nil)) pe_int (fun _ _ => rfl)) pe_int rfl)) pss_nil) (pss_one (ps_ret (pe_disp (pps_cons pe_str (pv 6) (pps_cons pe_str (pv 8) (pps_cons pe_str (pe_cal (ok_l_take T) (hr.mono (by decide)) rfl T.l_take (pa_cons (pv 0) (pa_cons (pv 4) pa_nil))) (pps_cons pe_str (pv 10) pps_nil)))) (by rfl) (by rfl) (fun z => by cases z) (by decide)))))))))), ?_⟩
  refine ⟨_, rfl, _, rfl, q, 4, rfl, DR, by decide, by decide, fun k H1 s1 k0 k1 => ⟨_, _, rfl, rfl, ?_⟩⟩
  refine ⟨_, rfl, by show 2 ≤ sizeLine; decide, fun a1 h1 => ⟨by show 4 ≤ sizeLine; decide, fun a2 h2 => ⟨by show 3 ≤ sizeLine; decide, fun a3 h3 => ⟨by show 4 ≤ sizeLine; decide, fun a4 h4 => ⟨by show 2 ≤ sizeLine; decide, fun a5 h5 => ⟨by show 5 ≤ sizeLine; decide, fun a6 h6 => ?_⟩⟩⟩⟩⟩⟩
  obtain ⟨s6, n6, menu⟩ := menu_ok s1 h1 h2 h3 h4 h5 h6
  refine ⟨q, s6.d2, .inl ⟨a6, _, rfl, upd_same, n6, by show 0 < 5; decide, by show 5 < 1000; decide, fun v H2 s2 hv => ?_⟩⟩
  obtain ⟨mn, ms, rfl, hmn6, nmd, nml, msn, ms4, mok⟩ := menu v hv
  have hmn2 := s2.kp _ _ hmn6 nmd nml
  have sA := s6.trans s2
  refine ⟨by show 2 ≤ sizeLine; decide, fun tt htt => ⟨tt, _, rfl, SqT.of upd_same, rfl, _, _, rfl, _, _, rfl, rfl, ?_⟩⟩
  have sB := sA.up htt (o := .tup [.int (1 + k), .ref mn])
  have hmnB := (sms H2).up htt (o := .tup [.int (1 + k), .ref mn]) _ _ hmn2
  generalize hHB : upd H2 tt (.tup [.int (1 + k), .ref mn]) = HB at *
  have msp : 0 < ms.length := List.length_pos_iff.mpr msn
  -- weights
  refine ⟨_, rfl, 1 + k, rfl, by omega, by omega, fun D hD => ?_⟩
  refine le_go (rel_sm q) walk_range hD (sB.d2.sm (sms HB)) (fun _ v n => v = V.int n) (fun _ n => 0 ≤ n ∧ n ≤ 9) (fun _ _ => trivial) ?_ ?_
  · rintro i x H3 H4 hi I ⟨rfl, rfl⟩
    refine ⟨rfl, _, rfl, _, rfl, q, I.rl.d2, .inl ⟨mn, _, rfl, I.rl.kp _ _ hmnB nmd nml, nml, by rw [List.length_map]; exact msp, by rw [List.length_map]; omega, fun v H5 s5 hv => ?_⟩⟩
    obtain ⟨n, hn, rfl⟩ := List.mem_map.mp hv
    exact I.step (rel_sm q) hD (fun _ h => h) (by omega) s5 rfl (mok n hn)
  intro us wz H3 h3' s3 p3 lz3 pz3
  refine ⟨D, us, rfl, .inl ⟨SqL.of h3', fun wa hwa => ?_⟩⟩
  have ew : us = wz.map V.int := paired_eq p3
  have wok := mem_p (p := fun n : Int => 0 ≤ n ∧ n ≤ 9) pz3
  have sC := (sB.trans s3).up hwa (o := .tup us)
  have hwC : (upd H3 wa (.tup us)) wa = some (.tup (wz.map V.int)) := by rw [upd_same, ew]
  have hmnC := (sms H3).up hwa (o := .tup us) _ _ (s3.kp _ _ hmnB nmd nml)
  generalize hHC : upd H3 wa (.tup us) = HC at *
  -- skipped
  refine ⟨_, rfl, _, _, rfl, rfl, 1 + k - 1, rfl, by omega, by omega, fun D2 hD2 => ?_⟩
  refine le_go (rel_sm q) walk_range hD2 (sC.d2.sm (sms HC)) (fun _ v n => v = V.int n) (fun _ n => 0 ≤ n ∧ n ≤ 9) (fun _ _ => trivial) ?_ ?_
  · rintro i x H4 H5 hi I ⟨rfl, rfl⟩
    have hmn4 := I.rl.kp _ _ hmnC nmd nml
    refine ⟨rfl, _, rfl, _, rfl, by show 1 ≤ sizeLine; decide, fun b1 hb1 => ⟨mn, b1, _, _, rfl, rfl, (sms H5).up hb1 _ _ hmn4, upd_same, ?_, fun b2 hb2 => ?_⟩⟩
    · rw [List.length_map, sizeLine_eq]
      show ms.length + 1 ≤ _
      omega
    have t1 := (I.rl.up hb1 (o := .lst [.int 0]))
    have t2 := t1.up hb2 (o := .lst (ms.map V.int ++ [.int 0]))
    refine ⟨q, t2.d2, .inl ⟨b2, _, rfl, upd_same, (t1.ne2 hb2).2, by simp, by simp; omega, fun v H6 s6 hv => ?_⟩⟩
    have hn : ∃ n, v = .int n ∧ 0 ≤ n ∧ n ≤ 9 := by
      rcases List.mem_append.mp hv with hv | hv
      · obtain ⟨n, hn, rfl⟩ := List.mem_map.mp hv
        exact ⟨n, rfl, mok n hn⟩
      · simp at hv
        exact ⟨0, hv, by decide, by decide⟩
    obtain ⟨n, rfl, hn⟩ := hn
    exact I.step (rel_sm q) hD2 (fun _ h => h) (by omega) ((((I.rl.d2.sm (sms _)).up hb1).up hb2).trans s6) rfl hn
  intro us2 sz H4 h4' s4 p4 lz4 pz4
  refine ⟨D2, us2, rfl, .inl ⟨SqL.of h4', fun sa hsa => ?_⟩⟩
  have es : us2 = sz.map V.int := paired_eq p4
  have sok := mem_p (p := fun n : Int => 0 ≤ n ∧ n ≤ 9) pz4
  have sD := (sC.trans s4).up hsa (o := .tup us2)
  have hsD : (upd H4 sa (.tup us2)) sa = some (.tup (sz.map V.int)) := by rw [upd_same, es]
  have hwD := (sms H4).up hsa (o := .tup us2) _ _ (s4.tk _ _ hwC)
  generalize hHD : upd H4 sa (.tup us2) = HX at *
  -- names
  refine ⟨_, rfl, _, rfl, _, rfl, q, 2, rfl, sD.d2, by decide, by decide, fun k2 H5 s5 k20 k21 => ?_⟩
  obtain ⟨kn, rfl⟩ := Int.eq_ofNat_of_zero_le k20
  refine ⟨_, _, rfl, rfl, q, 1 + kn, rfl, s5.d2, by omega, fun np ys H6 s6 hnpn hnp hyl hynd hyok => ?_⟩
  have sE := (sD.trans s5).trans s6
  have nnp := s5.d2.ne hnpn
  -- numbers
  refine ⟨_, rfl, np, rfl, ⟨_, SqL.of hnp⟩, fun D3 hD3 => ?_⟩
  refine le_go (rel_sm q) (walk_list (xs := ys.map V.str)) hD3 (sE.d2.sm (sms H6)) PrAt (fun j z => ys[j]? = some z.1 ∧ 0 ≤ z.2 ∧ z.2 ≤ mo) (fun H7 s7 => SqL.of (s7.kp _ _ hnp nnp.1 nnp.2)) ?_ ?_
  · rintro i x H7 H8 hi I ⟨rfl, e2⟩
    rw [List.getElem?_map] at e2
    obtain ⟨y, hy, rfl⟩ := Option.map_eq_some_iff.mp e2
    have hi3 : i < 1000 := by have := (List.getElem?_eq_some_iff.mp hy).1; omega
    refine ⟨rfl, _, rfl, _, rfl, _, rfl, _, _, rfl, rfl, q, mo + 1, rfl, I.rl.d2, by omega, by omega, fun n H9 s9 n0 n1 => ⟨by show 2 ≤ sizeLine; decide, fun p hp => ?_⟩⟩
    exact I.step (rel_sm q) hD3 tkPr hi3 (((I.rl.d2.sm (sms _)).trans s9).up hp) (z := (y, n)) ⟨p, rfl, upd_same⟩ ⟨hy, n0, by show n ≤ mo; omega⟩
  intro us3 zs H7 h7' s7 p7 lz7 pz7
  obtain ⟨ps, eps, pps⟩ := prs_split p7
  rw [eps] at h7'
  have ekeys : zs.map (·.1) = ys := at_map (by rw [lz7, List.length_map]) fun j z e => (pz7 j z e).1
  have zok := mem_p (p := fun z : Str × Int => 0 ≤ z.2 ∧ z.2 ≤ mo) fun j z e => (pz7 j z e).2
  have znd : (zs.map (·.1)).Nodup := by rw [ekeys]; exact hynd
  have zlen : zs.length = 1 + kn := by rw [lz7, List.length_map, hyl]
  have znm : ∀ p ∈ zs, NameOk p.1 := fun p hp => hyok _ (by rw [← ekeys]; exact List.mem_map.mpr ⟨p, hp, rfl⟩)
  refine ⟨D3, ps, DI (ks zs), rfl, SqL.of h7', prs_dict pps, fun d hd => ?_⟩
  rw [DI_dict znd]
  have sF := sE.trans s7
  have ndq := sF.ne2 hd
  have sG := sF.up hd (o := .dK (DI (ks zs)))
  have hwG := (sms H7).up hd (o := .dK (DI (ks zs))) _ _ ((s5.trans (s6.trans s7)).tk _ _ hwD)
  have hsG := (sms H7).up hd (o := .dK (DI (ks zs))) _ _ ((s5.trans (s6.trans s7)).tk _ _ hsD)
  have hdG : (upd H7 d (.dK (DI (ks zs)))) d = some (.dK (DI (ks zs))) := upd_same
  generalize hHG : upd H7 d (.dK (DI (ks zs))) = HG at *
  refine ⟨_, rfl, d, _, rfl, .inl hdG, fun p hp => ⟨p, (ks zs).map (·.2), rfl, SqL.of (by rw [upd_same, DI_vals]), rfl, _, rfl, ?_⟩⟩
  have sH := sG.up hp (o := .lst ((DI (ks zs)).map (·.2)))
  have hwH := (sms HG).up hp (o := .lst ((DI (ks zs)).map (·.2))) _ _ hwG
  have hsH := (sms HG).up hp (o := .lst ((DI (ks zs)).map (·.2))) _ _ hsG
  have hdH := (sms HG).up hp (o := .lst ((DI (ks zs)).map (·.2))) _ _ hdG
  generalize hHH : upd HG p (.lst ((DI (ks zs)).map (·.2))) = HH at *
  have esum : ((ks zs).map (·.2)).sum = (zs.map (·.2)).sum := by simp [ks, Function.comp_def]
  by_cases hz : ((ks zs).map (·.2)).sum = 0
  · refine iteTe (decide_eq_true (by rw [hz])) ?_
    obtain ⟨z0, zr, ez⟩ : ∃ z0 zr, zs = z0 :: zr := by
      cases zs with
      | nil => simp at zlen; omega
      | cons a b => exact ⟨a, b, rfl⟩
    refine ⟨_, rfl, _, rfl, d, _, rfl, .inl hdH, fun l hl => ⟨l, _, 0, .str z0.1, rfl, rfl, SqL.of upd_same, by rw [ez]; exact atI_nat (j := 0) rfl, ?_⟩⟩
    have hdI := (sms HH).up hl (o := .lst ((DI (ks zs)).map fun kv => kV kv.1)) _ _ hdH
    have hwI := (sms HH).up hl (o := .lst ((DI (ks zs)).map fun kv => kV kv.1)) _ _ hwH
    have hsI := (sms HH).up hl (o := .lst ((DI (ks zs)).map fun kv => kV kv.1)) _ _ hsH
    have sI := sH.up hl (o := .lst ((DI (ks zs)).map fun kv => kV kv.1))
    generalize hHI : upd HH l (.lst ((DI (ks zs)).map fun kv => kV kv.1)) = HI at *
    refine ⟨d, _, rfl, DPut.k (k := .inr z0.1) hdI (by rw [DI_length, List.length_map, sizeLine_eq]; omega), ?_⟩
    have eput : putK (DI (ks zs)) (.inr z0.1) (.int 1) = DI (ks ((z0.1, 1) :: zr)) := by
      rw [DI_putI, ez]
      have nz : ∀ p ∈ zr, ¬ p.1 = z0.1 := fun p hp e => by
        rw [ez, List.map_cons, List.nodup_cons] at znd
        exact znd.1 (e ▸ List.mem_map.mpr ⟨p, hp, rfl⟩)
      unfold putI
      rw [if_pos (by simp [ks])]
      simp only [ks, List.map_cons, if_pos, List.map_map]
      congr 1
      congr 1
      refine List.map_congr_left fun p hp => ?_
      have : ¬ (Sum.inr p.1 : Key) = Sum.inr z0.1 := fun e => nz p hp (Sum.inr.inj e)
      simp only [Function.comp_def, if_neg this]
    rw [eput]
    have sJ : Sm q H (upd HI d (.dK (DI (ks ((z0.1, 1) :: zr))))) := sI.new (sF.free hd)
    have nwd : wa ≠ d := ne_of hwI hdI (by intro z; cases z)
    have nsd : sa ≠ d := ne_of hsI hdI (by intro z; cases z)
    have hwJ : (upd HI d (.dK (DI (ks ((z0.1, 1) :: zr))))) wa = some (.tup (wz.map V.int)) := by rw [upd_ne nwd]; exact hwI
    have hsJ : (upd HI d (.dK (DI (ks ((z0.1, 1) :: zr))))) sa = some (.tup (sz.map V.int)) := by rw [upd_ne nsd]; exact hsI
    have hdJ : (upd HI d (.dK (DI (ks ((z0.1, 1) :: zr))))) d = some (.dK (DI (ks ((z0.1, 1) :: zr)))) := upd_same
    have nuok : SoOk ((z0.1, 1) :: zr) ∧ ((z0.1, 1) :: zr).length ≤ 2 := by
      have e1 : ((z0.1, (1 : Int)) :: zr).length = zs.length := by rw [ez]; rfl
      refine ⟨⟨by rw [e1]; omega, by rw [e1]; omega, by have := znd; rw [ez] at this; exact this, fun p hp => ?_, fun p hp => ?_, ?_⟩, by rw [e1]; omega⟩
      · rcases List.mem_cons.mp hp with e | e
        · rw [e]; exact znm z0 (by rw [ez]; simp)
        · exact znm p (by rw [ez]; simp [e])
      · rcases List.mem_cons.mp hp with e | e
        · rw [e]; exact ⟨by show (0 : Int) ≤ 1; decide, by show (1 : Int) ≤ 9; decide⟩
        · have := zok p (by rw [ez]; simp [e])
          omega
      · have hnn : ∀ l : So, (∀ p ∈ l, 0 ≤ p.2) → 0 ≤ (l.map (·.2)).sum := fun l => by
          induction l with
          | nil => intro _; exact Int.le_refl _
          | cons a b ih =>
            intro hh
            rw [List.map_cons, List.sum_cons]
            have := hh a (by simp)
            have := ih fun p hp => hh p (by simp [hp])
            omega
        have := hnn zr fun p hp => (zok p (by rw [ez]; simp [hp])).1
        rw [List.map_cons, List.sum_cons]
        show (1 : Int) + (zr.map (·.2)).sum ≠ 0
        omega

    refine fun c hc => ?_
    have nD := sJ.ne2 hc
    refine ⟨_, rfl, _, rfl, _, rfl, _, rfl, q, 1 + k, rfl, (sJ.up hc).d2, by omega, by omega, fun sp HR sR sp0 sp1 => ?_⟩
    have eR : HR c = some (.dK []) := sR.kp _ _ upd_same nD.1 nD.2
    have hwR : HR wa = some (.tup (wz.map V.int)) := sR.tk _ _ ((sms _).up hc _ _ (hwJ))
    have hsR : HR sa = some (.tup (sz.map V.int)) := sR.tk _ _ ((sms _).up hc _ _ (hsJ))
    have hdR : HR d = some (.dK (DI (ks ((z0.1, 1) :: zr)))) := sR.kp _ _ ((sms _).up hc _ _ (hdJ)) ndq.1 ndq.2
    refine ⟨_, rfl, eR, caseK wa sa d sp, rfl, by show 4 ≤ 15; decide, ?_⟩
    have scR := (sJ.up hc (o := .dK [])).trans sR
    have s' := scR.new (o := .dK (caseK wa sa d sp)) (sJ.free hc)
    have ncw : wa ≠ c := ne_of hwR eR (by intro z; cases z)
    have ncs : sa ≠ c := ne_of hsR eR (by intro z; cases z)
    have ncd : d ≠ c := ne_of_none (hdJ) hc
    refine h c ⟨wz, sz, sp⟩ ((z0.1, 1) :: zr) _ s' ⟨wa, sa, d, by rw [upd_same]; rfl, by rw [upd_ne ncw]; exact hwR, by rw [upd_ne ncs]; exact hsR, by rw [upd_ne ncd]; exact hdR, nD.1, ndq.1⟩ ⟨by show 1 ≤ wz.length; omega, by show wz.length ≤ 4; omega, by show sz.length + 1 = wz.length; omega, wok, sok, sp0, by show sp < wz.length; omega⟩ nuok

  · refine iteFe (decide_eq_false (fun z => hz (V.int.inj z))) ?_
    have nuok : SoOk zs ∧ zs.length ≤ 2 := ⟨⟨by omega, by omega, znd, znm, fun p hp => by have := zok p hp; omega, by rw [← esum]; exact hz⟩, by omega⟩

    refine fun c hc => ?_
    have nD := sH.ne2 hc
    refine ⟨_, rfl, _, rfl, _, rfl, _, rfl, q, 1 + k, rfl, (sH.up hc).d2, by omega, by omega, fun sp HR sR sp0 sp1 => ?_⟩
    have eR : HR c = some (.dK []) := sR.kp _ _ upd_same nD.1 nD.2
    have hwR : HR wa = some (.tup (wz.map V.int)) := sR.tk _ _ ((sms _).up hc _ _ (hwH))
    have hsR : HR sa = some (.tup (sz.map V.int)) := sR.tk _ _ ((sms _).up hc _ _ (hsH))
    have hdR : HR d = some (.dK (DI (ks zs))) := sR.kp _ _ ((sms _).up hc _ _ (hdH)) ndq.1 ndq.2
    refine ⟨_, rfl, eR, caseK wa sa d sp, rfl, by show 4 ≤ 15; decide, ?_⟩
    have scR := (sH.up hc (o := .dK [])).trans sR
    have s' := scR.new (o := .dK (caseK wa sa d sp)) (sH.free hc)
    have ncw : wa ≠ c := ne_of hwR eR (by intro z; cases z)
    have ncs : sa ≠ c := ne_of hsR eR (by intro z; cases z)
    have ncd : d ≠ c := ne_of_none (hdH) hc
    refine h c ⟨wz, sz, sp⟩ zs _ s' ⟨wa, sa, d, by rw [upd_same]; rfl, by rw [upd_ne ncw]; exact hwR, by rw [upd_ne ncs]; exact hsR, by rw [upd_ne ncd]; exact hdR, nD.1, ndq.1⟩ ⟨by show 1 ≤ wz.length; omega, by show wz.length ≤ 4; omega, by show sz.length + 1 = wz.length; omega, wok, sok, sp0, by show sp < wz.length; omega⟩ nuok

end
end U

set_option Elab.async false
set_option linter.all false
set_option maxRecDepth 100000
set_option maxHeartbeats 4000000
/-! The law's own drawing. -/
namespace U
open PySem PySem.Spec PyProof.Rows L2
theorem tuple_mul1 (l : Addr) (items : Array Value) (n : Nat) (dd : Option Addr) (sl : Array (Option Value)) (u : Tok) :
    Meets (Builtin.«tuple.__mul__» ⟨[.ref l, .int 1 u], []⟩) (fun _ R s => s.heap.get? l = some { cls := .type "tuple", dict := dd, data := .seq items n, slots := sl } ∧
      R (.ok (.ret (Value.ref l))) s) :=
  .of_wp fun prog w A R s h => by
    obtain ⟨hp, g, d, tk, os⟩ := s
    obtain ⟨hl, h⟩ := h
    have f1 := AutoSeq1.idx_int
    have c1 : (items.isEmpty || (1 : Int) == 1) = true := by simp
    wp_walk using wpAny_loadPart' hl
    exact ⟨_, rfl, h⟩
theorem tuple_mul0 (l : Addr) (items : Array Value) (n : Nat) (dd : Option Addr) (sl : Array (Option Value)) (u : Tok) (he : items.isEmpty = false) :
    Meets (Builtin.«tuple.__mul__» ⟨[.ref l, .int 0 u], []⟩) (fun _ R s => s.heap.get? l = some { cls := .type "tuple", dict := dd, data := .seq items n, slots := sl } ∧
      R (.ok (.ret (Value.ref s.heap.objs.size))) { s with heap := s.heap.push { cls := Value.type "tuple", data := Data.seq #[] }, toks := s.toks }) :=
  .of_wp fun prog w A R s h => by
    obtain ⟨hp, g, d, tk, os⟩ := s
    obtain ⟨hl, h⟩ := h
    have f1 := AutoSeq1.idx_int
    wp_walk using wpAny_loadPart' hl
    exact ⟨_, rfl, h⟩
/-- (x,) * k, k from 0 on -/
def rRepE (K : PySem.W.Frag) : R2 := fun x y H Q => ∃ l xs, ∃ k : Nat, x = .ref l ∧ y = .int k ∧ H l = some (.tup xs) ∧ xs ≠ [] ∧ k ≤ 1000 ∧ xs.length ≤ 1000 ∧ ∀ p H', Same H H' → H' p = some (.tup (List.replicate k xs).flatten) → Q (.ref p) H'
theorem op_repE {X : Cx} {K : PySem.W.Frag} (hK : X.K = K) : OpR X (binaryOp .Mult) (rRepE K) := by
  subst hK
  intro pins s σ H x y v u Q I rx ry h
  obtain ⟨l, xs, k, rfl, rfl, hT, hne, h2, hz, q⟩ := h
  match k, h2, q with
  | k + 2, h2, q => exact op_repT pins s σ H _ _ v u Q I rx ry ⟨l, ((k + 2 : Nat) : Int), xs, rfl, rfl, SqT.of hT, hne, by omega, by omega, hz, fun p hp => by rw [Int.toNat_natCast]; exact q p _ ((sms H).up hp) upd_same⟩
  | 1, h2, q =>
    cases rx
    obtain ⟨t, rfl⟩ := ry
    obtain ⟨its, r, ⟨⟨cls, dd, data, sl⟩, ho, hc, n, hd⟩, hs⟩ := I.tuple (SqT.of hT)
    simp only at hc hd
    subst hc hd
    refine wpAny_binaryOp_repeat_ref (T := "tuple") (U := "int") (by decide) ⟨_, ho, rfl⟩ (fun s' => typeIs_int s' 1 t) noFill_tuple_mul F.fills_int_mul F.slot_int_rmul repeat_tuple F.slot_int_index.lookup
      (call_meets F.slot_int_rmul (typeIs_int s 1 t) F.entry_int_rmul (F.args_int_rmul_2 _ _) (int_rmul_tuple 1 t l its.toArray n dd sl)
        ⟨ho, rfl, ⟨_, ho, rfl⟩, call_meets F.slot_tuple_mul ⟨_, ho, rfl⟩ F.entry_tuple_mul (F.args_tuple_mul_2 _ _) (tuple_mul1 l its.toArray n dd sl t) ⟨ho, ?_⟩⟩)
    exact ⟨.ref l, H, I, rfl, q l H (sms H) (by simpa using hT)⟩
  | 0, h2, q =>
    cases rx
    obtain ⟨t, rfl⟩ := ry
    obtain ⟨its, r, ⟨⟨cls, dd, data, sl⟩, ho, hc, n, hd⟩, hs⟩ := I.tuple (SqT.of hT)
    simp only at hc hd
    subst hc hd
    have hi : its.toArray.isEmpty = false := by
      have hle : its.length = xs.length := r.length.symm
      cases its with
      | nil => exact absurd (List.eq_nil_of_length_eq_zero hle.symm) hne
      | cons a b => rfl
    refine wpAny_binaryOp_repeat_ref (T := "tuple") (U := "int") (by decide) ⟨_, ho, rfl⟩ (fun s' => typeIs_int s' 0 t) noFill_tuple_mul F.fills_int_mul F.slot_int_rmul repeat_tuple F.slot_int_index.lookup
      (call_meets F.slot_int_rmul (typeIs_int s 0 t) F.entry_int_rmul (F.args_int_rmul_2 _ _) (int_rmul_tuple 0 t l its.toArray n dd sl)
        ⟨ho, rfl, ⟨_, ho, rfl⟩, call_meets F.slot_tuple_mul ⟨_, ho, rfl⟩ F.entry_tuple_mul (F.args_tuple_mul_2 _ _) (tuple_mul0 l its.toArray n dd sl t hi) ⟨ho, ?_⟩⟩)
    have hf := I.hok.fresh (Nat.le_refl _)
    refine ⟨.ref s.heap.objs.size, _, I.laid (t' := s.toks) (o := .tup []) (fun b ob q => Heap.get?_push_of_some _ q) (Nat.le_refl _) ?_, rfl, q _ _ ((sms H).up hf) (by rw [upd_same]; rfl)⟩
    exact ⟨Nat.zero_le _, [], .nil, IsTup.new _ _⟩
theorem flat_rep {α : Type} (v : α) : ∀ n, (List.replicate n [v]).flatten = List.replicate n v
  | 0 => rfl
  | n + 1 => by rw [List.replicate_succ, List.flatten_cons, flat_rep v n]; rfl
theorem paired_rep {α β : Type} {R : α → β → Prop} {a : α} {b : β} (h : R a b) : ∀ n, Paired R (List.replicate n a) (List.replicate n b)
  | 0 => .nil
  | n + 1 => .cons h (paired_rep h n)
section
variable {P : Program} {w : World} {K : PySem.W.Frag} {mg : Str → Option Value} {base : Heap}
def pr_first_one : Pr := fun vs H Q => ∃ x c ru nu, vs = [.ref c] ∧ CaseAt H x c ru nu ∧ RuOk ru ∧ ∀ t H', Same H H' → StAt H' t (fst0 ru) → Q (.ref t) H'
theorem sc_l_first_one : FnScope ["_law_case"] ["_law_case"] (defScope s_l_first_one) := ⟨rfl, rfl, rfl, by decide +kernel, rfl, by decide +kernel, by decide +kernel⟩
theorem ok_l_first_one (T : T K mg) : Ok P w K mg base 1 (He.ga K "_law_first_one") pr_first_one := by
  refine Dn.ok T.l_first_one sc_l_first_one (fun _ _ _ _ _ _ us hl => match us, hl with | [_], _ => rfl) (fun vs H Q h => ?_) fun cdv A outer s H vs Q E hr h => ?_
  · obtain ⟨_, _, _, _, rfl, _⟩ := h
    rfl
  obtain ⟨x0, c, ru, nu, rfl, ⟨wa, sa, nd, h1, h2, _⟩, ok, h⟩ := h
  have w1 := ok.w1
  have w4 := ok.w4
  refine ⟨_, (pss_one (ps_ret (pe_op (op_repE (K := K) rfl) (pe_tup (pa_cons (pe_tup pa_nil) pa_nil)) (pe_op op_sub (pe_callB (lenK (K := K) rfl) rfl T.z_len b_len (pa_cons (pe_dget (hu_of hr) (pv 0) pe_str (fun _ _ => rfl)) pa_nil)) pe_int)))), ?_⟩
  refine ⟨Nat.zero_le _, fun e he => ⟨by show 1 ≤ sizeLine; decide, fun o ho => ?_⟩⟩
  have s1 := ((sms H).up he (o := .tup [])).up ho (o := .tup [.ref e])
  refine ⟨_, rfl, c, _, rfl, DGet.k (k := .inr "weights") (s1 _ _ h1), _, ru.w.length, rfl, .inr ⟨_, SqT.of (s1 _ _ h2), (List.length_map _).symm⟩, _, _, rfl, rfl, o, [.ref e], ru.w.length - 1, rfl, ?_, upd_same, by simp, by omega, by show 1 ≤ 1000; decide, fun p H' s' h' => ?_⟩
  · exact congrArg V.int (by omega)
  · rw [flat_rep] at h'
    exact h p H' (s1.trans s') ⟨_, h', paired_rep ⟨e, rfl, s' _ _ ((sms (upd H e (.tup []))).up ho _ _ upd_same)⟩ _⟩
def pr_drawn_on (K : PySem.W.Frag) : Pr := fun vs H Q => ∃ t st so k b, vs = [.ref t, kV k, .bl b] ∧ StAt H t st ∧ st.length ≤ 100 ∧ PlOk so st k ∧ ∀ t' H', Same H H' → StAt H' t' (drawn st k b) → Q (.ref t') H'
theorem sc_l_drawn_on : FnScope ["_law_standing", "_law_place", "_law_was_skipped", "_law_kind", "_law_found", "_law_at", "_law_item"] ["_law_standing", "_law_place", "_law_was_skipped"] (defScope s_l_drawn_on) := ⟨rfl, rfl, rfl, by decide +kernel, rfl, by decide +kernel, by decide +kernel⟩
theorem ok_l_drawn_on (T : T K mg) : Ok P w K mg base 1 (He.ga K "_law_drawn_on") (pr_drawn_on K) := by
  refine Dn.ok T.l_drawn_on sc_l_drawn_on (fun _ _ _ _ _ _ us hl => match us, hl with | [_, _, _], _ => rfl) (fun vs H Q h => ?_) fun cdv A outer s H vs Q E hr h => ?_
  · obtain ⟨_, _, _, _, _, rfl, _⟩ := h
    rfl
  obtain ⟨t, st, so, k, b, rfl, St, hz, pk, h⟩ := h
  obtain ⟨xs, hx, px⟩ := id St
  have hz2 : ∀ n : Nat, n ≤ 200 → n ≤ sizeLine := fun n hn => by rw [sizeLine_eq]; omega
  refine ⟨_, (pss_cons (ps_set (i := 3) sc_l_drawn_on.nd rfl (by first | exact .inl rfl | exact .inr rfl) (pe_ifExp (pt_val (pe_callB (isiK (K := K) rfl) rfl T.z_isinstance b_isinstance (pa_cons (pv 1) (pa_cons (pe_bltn (v := .ty "str") rfl T.z_str b_str rfl) pa_nil)))) (pv 1) (pe_ix (ixT (K := K) rfl) (pe_ix (ixT (K := K) rfl) (pv 0) (pe_op op_sub (pv 1) pe_int) (fun _ _ => rfl)) pe_int (fun _ _ => rfl)))) (pss_cons (ps_set (i := 4) sc_l_drawn_on.nd rfl (by first | exact .inl rfl | exact .inr rfl) (pe_op op_cat (pe_lst (pa_cons (pe_tup (pa_cons (pv 3) (pa_cons (pv 2) pa_nil))) pa_nil)) (pe_lc (own := [("_law_at", 5), ("_law_item", 6)]) (g := gTup K 2 (gCons (gName 5) (gCons (gName 6) gNil))) (tt := tYes) rfl sc_l_drawn_on.nd  (pi_enumT rfl T.z_enumerate (pa_cons (pv 0) pa_nil)) (blkOk_by (N := ["_law_standing", "_law_place", "_law_was_skipped", "_law_kind", "_law_found", "_law_at", "_law_item"]) (sc := defScope s_l_drawn_on) (by decide +kernel)) (fun _ _ _ _ _ => pg_tup rfl (pgs_cons (pg_name (i := 5) sc_l_drawn_on.nd rfl (by first | exact .inl rfl | exact .inr rfl)) (pgs_cons (pg_name (i := 6) sc_l_drawn_on.nd rfl (by first | exact .inl rfl | exact .inr rfl)) pgs_nil))) (fun _ _ _ _ _ => pts_nil) (fun _ _ _ _ _ => (pe_ifExp (pt_cmpR op_eq (pe_op op_add (pv 5) pe_int) (pv 1) (nomark _)) (pe_tup pa_nil) (pv 6)))))) (pss_one (ps_ret (pe_callTy (tupK (K := K) rfl) rfl T.z_tuple b_tuple (pa_cons (pe_slice (slL (K := K) rfl) (pv 4) po_none (po_some (pe_callB (lenK (K := K) rfl) rfl T.z_len b_len (pa_cons (pv 0) pa_nil)))) pa_nil)))))), ?_⟩
  cases k with
  | inl a =>
    have el0 : xs.length = st.length := Paired.length px
    obtain ⟨j, k0, b0, hj, ea⟩ := mem_agesFrom.mp pk
    rw [Nat.zero_add] at ea
    have hjl := (List.getElem?_eq_some_iff.mp hj).1
    have hxj : j < xs.length := by omega
    obtain ⟨it, hit, pit⟩ := paired_at px (List.getElem?_eq_getElem hxj)
    rw [hj] at hit
    cases hit
    obtain ⟨ia, eia, hia⟩ := pit
    have exj : xs[j]? = some (.ref ia) := by rw [List.getElem?_eq_getElem hxj, eia]
    have ej : a - 1 = ((j : Nat) : Int) := by omega
    have ek : kindAt st (.inl a) = k0 := by
      unfold kindAt
      have : (a - 1).toNat = j := by omega
      simp only [this, hj]
    refine ⟨_, rfl, _, _, _, _, false, rfl, .ty "str", .base (.int a), kit_ty (by decide +kernel : kitB "int" "str" = some false), _, rfl, iteF ⟨_, rfl, _, rfl, _, _, rfl, rfl, t, xs, _, _, rfl, rfl, SqT.of hx, atI_get exj ej, ia, _, _, _, rfl, rfl, SqT.of hia, rfl, ?_⟩⟩
    rw [← ek]

    have el : xs.length = st.length := Paired.length px
    refine ⟨_, rfl, _, rfl, by show 2 ≤ sizeLine; decide, fun p hp => ⟨by show 1 ≤ sizeLine; decide, fun a1 ha1 => ?_⟩⟩
    have s0 := ((sms H).up hp (o := .tup [.str (kindAt st (.inl a)), .bl b])).up ha1 (o := .lst [.ref p])
    have hp0 := (sms (upd H p (.tup [.str (kindAt st (.inl a)), .bl b]))).up ha1 (o := .lst [.ref p]) _ _ upd_same
    have ha0 : (upd (upd H p (.tup [.str (kindAt st (.inl a)), .bl b])) a1 (.lst [.ref p])) a1 = some (.lst [.ref p]) := upd_same
    generalize hH0 : upd (upd H p (.tup [.str (kindAt st (.inl a)), .bl b])) a1 (.lst [.ref p]) = H0 at *
    refine ⟨_, rfl, t, xs, rfl, SqT.of (s0 _ _ hx), fun D hD => ?_⟩
    refine lc_go rel_same walk_enumT hD (sms _) (fun i => restFrom (.inl a) 0 (st.take i)) (fun H v it => ItAt H v it) rfl (fun H1 s1 => SqT.of (s1 _ _ (s0 _ _ hx))) ?_ ?_
    · rintro i x H1 H' hi I ⟨q, x1, x2, rfl, hq, rfl, e1, e2⟩
      cases e1
      obtain ⟨it, hi2, hit⟩ := paired_at px e2
      have s1 := (sms H1).up hq (o := .tup [.int (i : Nat), x2])
      have hit1 : ItAt _ x2 it := hit.mono ((s0.trans I.rl).trans s1).tk
      refine ⟨q, _, rfl, SqT.of upd_same, rfl, _, _, rfl, _, _, rfl, rfl, rfl, ?_⟩
      refine ⟨_, rfl, _, _, rfl, rfl, _, rfl, scal_kk (.inl (((i : Nat) : Int) + 1)) (.inl a), _, rfl, ?_⟩
      by_cases q2 : (Sum.inl (((i : Nat) : Int) + 1) : Key) = (.inl a)
      · refine iteTe (decide_eq_true (congrArg kV q2)) ⟨by show 0 ≤ sizeLine; decide, fun p hp => I.step rel_same hD tkItAt (by omega) (s1.up hp) (rest_snoc (.inl a) hi2) ?_⟩
        unfold restF
        rw [if_pos q2]
        exact ⟨p, rfl, upd_same⟩
      · refine iteFe (decide_eq_false (fun z => q2 (kV_inj z))) ⟨_, rfl, I.step rel_same hD tkItAt (by omega) s1 (rest_snoc (.inl a) hi2) ?_⟩
        unfold restF
        rw [if_neg q2]
        exact hit1
    intro us H1 h1 s1 p1
    have p1' : Paired (ItAt H1) us (restFrom (.inl a) 0 st) := by simpa [el] using p1
    have lu : us.length = st.length := by rw [Paired.length p1', restFrom_len]
    refine ⟨a1, D, _, us, rfl, rfl, s1 _ _ ha0, h1, hz2 _ (by show 1 + us.length ≤ 200; omega), fun f hf => ?_⟩
    have s2 := (s0.trans s1).up hf (o := .lst ([.ref p] ++ us))
    refine ⟨_, rfl, _, rfl, _, st.length, rfl, .inr ⟨xs, SqT.of (s2 _ _ hx), el.symm⟩, _, rfl, f, _, rfl, SqL.of upd_same, fun g hg => ⟨g, _, rfl, .inl ⟨SqL.of upd_same, fun t' ht' => ?_⟩⟩⟩
    have s3 := (s2.up hg (o := .lst (cutV ([.ref p] ++ us) none (some ((st.length : Nat) : Int))))).up ht' (o := .tup (cutV ([.ref p] ++ us) none (some ((st.length : Nat) : Int))))
    have s13 := ((((sms H1).up hf (o := .lst ([.ref p] ++ us))).up hg (o := .lst (cutV ([.ref p] ++ us) none (some ((st.length : Nat) : Int))))).up ht' (o := .tup (cutV ([.ref p] ++ us) none (some ((st.length : Nat) : Int)))))
    refine h t' _ s3 ⟨([V.ref p] ++ us).take st.length, by rw [upd_same, cutV_to], ?_⟩
    exact paired_take st.length (.cons ⟨p, rfl, (s1.trans s13) _ _ hp0⟩ (Paired.mapP p1' fun _ _ z => z.mono s13.tk))

  | inr z =>
    refine ⟨_, rfl, _, _, _, _, true, rfl, .ty "str", .base (.str z), kit_ty (by decide +kernel : kitB "str" "str" = some true), _, rfl, iteT ⟨_, rfl, ?_⟩⟩

    have el : xs.length = st.length := Paired.length px
    refine ⟨_, rfl, _, rfl, by show 2 ≤ sizeLine; decide, fun p hp => ⟨by show 1 ≤ sizeLine; decide, fun a1 ha1 => ?_⟩⟩
    have s0 := ((sms H).up hp (o := .tup [(kV (.inr z)), .bl b])).up ha1 (o := .lst [.ref p])
    have hp0 := (sms (upd H p (.tup [(kV (.inr z)), .bl b]))).up ha1 (o := .lst [.ref p]) _ _ upd_same
    have ha0 : (upd (upd H p (.tup [(kV (.inr z)), .bl b])) a1 (.lst [.ref p])) a1 = some (.lst [.ref p]) := upd_same
    generalize hH0 : upd (upd H p (.tup [(kV (.inr z)), .bl b])) a1 (.lst [.ref p]) = H0 at *
    refine ⟨_, rfl, t, xs, rfl, SqT.of (s0 _ _ hx), fun D hD => ?_⟩
    refine lc_go rel_same walk_enumT hD (sms _) (fun i => restFrom (.inr z) 0 (st.take i)) (fun H v it => ItAt H v it) rfl (fun H1 s1 => SqT.of (s1 _ _ (s0 _ _ hx))) ?_ ?_
    · rintro i x H1 H' hi I ⟨q, x1, x2, rfl, hq, rfl, e1, e2⟩
      cases e1
      obtain ⟨it, hi2, hit⟩ := paired_at px e2
      have s1 := (sms H1).up hq (o := .tup [.int (i : Nat), x2])
      have hit1 : ItAt _ x2 it := hit.mono ((s0.trans I.rl).trans s1).tk
      refine ⟨q, _, rfl, SqT.of upd_same, rfl, _, _, rfl, _, _, rfl, rfl, rfl, ?_⟩
      refine ⟨_, rfl, _, _, rfl, rfl, _, rfl, scal_kk (.inl (((i : Nat) : Int) + 1)) (.inr z), _, rfl, ?_⟩
      by_cases q2 : (Sum.inl (((i : Nat) : Int) + 1) : Key) = (.inr z)
      · refine iteTe (decide_eq_true (congrArg kV q2)) ⟨by show 0 ≤ sizeLine; decide, fun p hp => I.step rel_same hD tkItAt (by omega) (s1.up hp) (rest_snoc (.inr z) hi2) ?_⟩
        unfold restF
        rw [if_pos q2]
        exact ⟨p, rfl, upd_same⟩
      · refine iteFe (decide_eq_false (fun z => q2 (kV_inj z))) ⟨_, rfl, I.step rel_same hD tkItAt (by omega) s1 (rest_snoc (.inr z) hi2) ?_⟩
        unfold restF
        rw [if_neg q2]
        exact hit1
    intro us H1 h1 s1 p1
    have p1' : Paired (ItAt H1) us (restFrom (.inr z) 0 st) := by simpa [el] using p1
    have lu : us.length = st.length := by rw [Paired.length p1', restFrom_len]
    refine ⟨a1, D, _, us, rfl, rfl, s1 _ _ ha0, h1, hz2 _ (by show 1 + us.length ≤ 200; omega), fun f hf => ?_⟩
    have s2 := (s0.trans s1).up hf (o := .lst ([.ref p] ++ us))
    refine ⟨_, rfl, _, rfl, _, st.length, rfl, .inr ⟨xs, SqT.of (s2 _ _ hx), el.symm⟩, _, rfl, f, _, rfl, SqL.of upd_same, fun g hg => ⟨g, _, rfl, .inl ⟨SqL.of upd_same, fun t' ht' => ?_⟩⟩⟩
    have s3 := (s2.up hg (o := .lst (cutV ([.ref p] ++ us) none (some ((st.length : Nat) : Int))))).up ht' (o := .tup (cutV ([.ref p] ++ us) none (some ((st.length : Nat) : Int))))
    have s13 := ((((sms H1).up hf (o := .lst ([.ref p] ++ us))).up hg (o := .lst (cutV ([.ref p] ++ us) none (some ((st.length : Nat) : Int))))).up ht' (o := .tup (cutV ([.ref p] ++ us) none (some ((st.length : Nat) : Int)))))
    refine h t' _ s3 ⟨([V.ref p] ++ us).take st.length, by rw [upd_same, cutV_to], ?_⟩
    exact paired_take st.length (.cons ⟨p, rfl, (s1.trans s13) _ _ hp0⟩ (Paired.mapP p1' fun _ _ z => z.mono s13.tk))

end
end U

set_option Elab.async false
set_option linter.all false
set_option maxRecDepth 100000
set_option maxHeartbeats 4000000
/-! The law's own rows beside the weights. -/
namespace U
open PySem L2
abbrev RowT := Key × Int × Int
def rowA (ru : Ru) (bs : List Str) (st : Stn) (a : Int) : RowT := (.inl a, 1, wtA ru bs st a)
def eachK (ru : Ru) (bs : List Str) (k : Str) : Int := if k ∈ bs then 0 else (ru.w[ru.w.length - 1]?).getD 0
def rowK (ru : Ru) (bs : List Str) (p : Str × Int) : RowT := (.inr p.1, p.2, eachK ru bs p.1)
def rows0 (ru : Ru) (so : So) (st : Stn) : List RowT := (agesOf st).map (rowA ru (barred ru.n st) st) ++ (old so st).map (rowK ru (barred ru.n st))
def posR (r : RowT) : Bool := decide (0 < r.2.2)
def lastR (l : List RowT) : Option Key := (l.map (·.1)).getLast?
def fbR (last : Option Key) (k : Key) : Int := match last with
  | some (.inr _) => if k.isRight = true then 1 else 0
  | some (.inl a) => if k = .inl a then 1 else 0
  | none => 0
def rowsAt (ru : Ru) (so : So) (st : Stn) : List RowT := if (rows0 ru so st).any posR = true then rows0 ru so st else (rows0 ru so st).map fun r => (r.1, r.2.1, fbR (lastR (rows0 ru so st)) r.1)
theorem told_rows (ru : Ru) (so : So) (st : Stn) : told ru so st = (rows0 ru so st).map fun r => (r.1, r.2.1 * r.2.2) := by
  unfold told rows0
  rw [List.map_append, List.map_map, List.map_map]
  congr 1
  · refine List.map_congr_left fun a _ => ?_
    simp [rowA]
  · refine List.map_congr_left fun p _ => ?_
    simp only [Function.comp_def, rowK, wtK, eachK]
    by_cases h : p.1 ∈ barred ru.n st
    · simp [h]
    · simp only [h, if_false]
      rw [Int.mul_comm]
theorem rows_each {ru : Ru} {so : So} {st : Stn} (rk : RuOk ru) (sk : SoOk so) {r : RowT} (h : r ∈ rows0 ru so st) : 0 < r.2.1 ∧ 0 ≤ r.2.2 ∧ r.2.2 ≤ 9 := by
  unfold rows0 at h
  rcases List.mem_append.mp h with h | h
  · obtain ⟨a, _, rfl⟩ := List.mem_map.mp h
    have := wtA_b rk (barred ru.n st) st a
    simp only [rowA]
    omega
  · obtain ⟨p, hp, rfl⟩ := List.mem_map.mp h
    have := old_b sk hp
    simp only [rowK, eachK]
    split
    · omega
    · have := getD_in (i := ru.w.length - 1) rk.wp
      omega
theorem rows_keys (ru : Ru) (so : So) (st : Stn) : (rows0 ru so st).map (·.1) = (told ru so st).map (·.1) := by
  rw [told_rows, List.map_map]
  rfl
theorem any_iff {ru : Ru} {so : So} {st : Stn} (rk : RuOk ru) (sk : SoOk so) : anyW (told ru so st) = (rows0 ru so st).any posR := by
  unfold anyW
  rw [told_rows, List.map_map, List.any_map]
  have : ∀ l : List RowT, (∀ r ∈ l, 0 < r.2.1 ∧ 0 ≤ r.2.2) → (l.any (((fun n : Int => n != 0) ∘ fun p : Key × Int => p.2) ∘ fun r : RowT => (r.1, r.2.1 * r.2.2))) = l.any posR := by
    intro l
    induction l with
    | nil => intro _; rfl
    | cons r l ih =>
      intro h
      rw [List.any_cons, List.any_cons, ih fun q hq => h q (by simp [hq])]
      have hr := h r (by simp)
      congr 1
      simp only [Function.comp_def, posR]
      by_cases e : 0 < r.2.2
      · have := Int.mul_pos hr.1 e
        rw [decide_eq_true e]
        simp
        omega
      · have : r.2.2 = 0 := by omega
        rw [decide_eq_false e, this]
        simp
  have h2 := this (rows0 ru so st) fun r hr => let z := rows_each rk sk hr; ⟨z.1, z.2.1⟩
  simpa [Function.comp_def] using h2
theorem last_inr {ru : Ru} {so : So} {st : Stn} : (∃ z, lastR (rows0 ru so st) = some (.inr z)) ↔ old so st ≠ [] := by
  unfold lastR rows0
  constructor
  · rintro ⟨z, h⟩ e
    rw [e, List.map_nil, List.append_nil, List.map_map] at h
    have := List.mem_of_getLast? h
    obtain ⟨a, _, h2⟩ := List.mem_map.mp this
    cases h2
  · intro h
    rw [List.map_append, List.getLast?_append]
    have hne : ((old so st).map (rowK ru (barred ru.n st))).map (·.1) ≠ [] := by simpa using h
    rw [List.getLast?_eq_some_getLast hne]
    obtain ⟨p, _, e⟩ := List.mem_map.mp (List.getLast_mem hne)
    obtain ⟨q, _, rfl⟩ := List.mem_map.mp ‹p ∈ _›
    exact ⟨q.1, by rw [← e]; rfl⟩
theorem rows_can {ru : Ru} {so : So} {st : Stn} (rk : RuOk ru) (sk : SoOk so) (ok : StOk ru so st) {r : RowT} (h : r ∈ rowsAt ru so st) (h0 : 0 < r.2.2) : Can ru so st r.1 := by
  unfold rowsAt at h
  have ea := any_iff (st := st) rk sk
  have nd := told_nodup (ru := ru) (st := st) sk.nd
  split at h
  · rename_i hany
    have hr := rows_each rk sk h
    have ht : (r.1, r.2.1 * r.2.2) ∈ told ru so st := by rw [told_rows]; exact List.mem_map.mpr ⟨r, h, rfl⟩
    refine ⟨r.2.1 * r.2.2, ?_, Int.mul_pos hr.1 h0⟩
    unfold allw
    rw [if_pos (ea.trans hany)]
    exact look_mem nd ht
  · rename_i hany
    obtain ⟨r0, hr0, rfl⟩ := List.mem_map.mp h
    have hnot : ¬ anyW (told ru so st) = true := by rw [ea]; exact hany
    have hk : r0.1 ∈ (told ru so st).map (·.1) := by rw [← rows_keys]; exact List.mem_map.mpr ⟨r0, hr0, rfl⟩
    obtain ⟨p, hp, ep⟩ := List.mem_map.mp hk
    have lk : look (allw ru so st) r0.1 = some (fbW so st (if old so st = [] then lastK (told ru so st) else none) r0.1) := by
      have nd2 := allw_nodup (ru := ru) (st := st) sk.nd
      have : (r0.1, fbW so st (if old so st = [] then lastK (told ru so st) else none) r0.1) ∈ allw ru so st := by
        unfold allw
        rw [if_neg hnot]
        exact List.mem_map.mpr ⟨p, hp, by rw [ep]⟩
      exact look_mem nd2 this
    refine ⟨_, lk, ?_⟩
    simp only at h0
    cases el : lastR (rows0 ru so st) with
    | none => rw [el] at h0; simp [fbR] at h0
    | some kl =>
      cases kl with
      | inr z =>
        rw [el] at h0
        have ho : old so st ≠ [] := last_inr.mp ⟨z, el⟩
        rw [if_neg ho]
        cases hk0 : r0.1 with
        | inl a => rw [hk0] at h0; simp [fbR] at h0
        | inr k =>
          have : k ∈ (old so st).map (·.1) := by
            have h2 := hk
            rw [told_keys, hk0] at h2
            rcases List.mem_append.mp h2 with h2 | h2
            · obtain ⟨a, _, e⟩ := List.mem_map.mp h2
              cases e
            · obtain ⟨q, hq, e⟩ := List.mem_map.mp h2
              cases e
              exact List.mem_map.mpr ⟨q, hq, rfl⟩
          obtain ⟨n, en⟩ := ks_mem this
          have hm := look_some en
          obtain ⟨q, hq, e⟩ := List.mem_map.mp hm
          cases e
          unfold fbW
          rw [en]
          exact (old_mem hq).1
      | inl a =>
        rw [el] at h0
        have ho : old so st = [] := by
          apply Classical.byContradiction
          intro hn
          obtain ⟨z, hz⟩ := (last_inr (ru := ru)).mpr hn
          rw [el] at hz
          cases hz
        have e0 : r0.1 = .inl a := by
          simp only [fbR] at h0
          split at h0
          · assumption
          · omega
        have elk : lastK (told ru so st) = some (.inl a) := by unfold lastK; rw [← rows_keys]; exact el
        rw [if_pos ho, elk, e0]
        unfold fbW
        rw [ho]
        simp [look]
theorem rows_pos {ru : Ru} {so : So} {st : Stn} (rk : RuOk ru) (sk : SoOk so) (ok : StOk ru so st) : ∃ r ∈ rowsAt ru so st, 0 < r.2.2 := by
  unfold rowsAt
  split
  · rename_i hany
    obtain ⟨r, hr, h⟩ := List.any_eq_true.mp hany
    exact ⟨r, hr, by simpa [posR] using h⟩
  · have hne : (rows0 ru so st).map (·.1) ≠ [] := by
      rw [rows_keys]
      simpa using told_ne (ru := ru) sk ok
    have hl : lastR (rows0 ru so st) = some (((rows0 ru so st).map (·.1)).getLast hne) := List.getLast?_eq_some_getLast hne
    obtain ⟨r, hr, e⟩ := List.mem_map.mp (List.getLast_mem hne)
    refine ⟨_, List.mem_map.mpr ⟨r, hr, rfl⟩, ?_⟩
    rw [hl, ← e]
    simp only
    cases hk : r.1 with
    | inl a => simp [fbR]
    | inr z => simp [fbR]
theorem rowsAt_len {ru : Ru} {so : So} {st : Stn} (h1 : st.length ≤ 3) (h2 : so.length ≤ 3) : (rowsAt ru so st).length ≤ 6 := by
  have := told_len (ru := ru) (st := st) h1 h2
  have e : (rows0 ru so st).length = (told ru so st).length := by rw [told_rows, List.length_map]
  unfold rowsAt
  split
  · omega
  · rw [List.length_map]; omega
end U

set_option Elab.async false
set_option linter.all false
set_option maxRecDepth 100000
set_option maxHeartbeats 4000000
/-! The law's own rows. -/
namespace U
open PySem PySem.Spec PyProof.Rows L2
def RowAt (H : Hp) (v : V) (r : RowT) : Prop := ∃ a, v = .ref a ∧ H a = some (.tup [kV r.1, .int r.2.1, .int r.2.2])
theorem tkRow : TkR RowAt := fun k ⟨a, e, h⟩ => ⟨a, e, k _ _ h⟩
def kD : Key → PyData
  | .inl a => .int a
  | .inr z => .str z
def rowD (r : RowT) : PyData := .tuple [kD r.1, .int r.2.1, .int r.2.2]
theorem kD_dp {K : PySem.W.Frag} {H : Hp} : ∀ k : Key, Dp K H (kV k) (kD k)
  | .inl a => .int a
  | .inr z => .str z
theorem kD_plain : ∀ k : Key, PyData.plain (kD k) = true
  | .inl a => by simp [kD, PyData.plain]
  | .inr z => by simp [kD, PyData.plain]
theorem kD_depth : ∀ k : Key, PyData.depth (kD k) = 0
  | .inl a => by simp [kD, PyData.depth]
  | .inr z => by simp [kD, PyData.depth]
theorem RowAt.dp {K : PySem.W.Frag} {H : Hp} {v : V} {r : RowT} (h : RowAt H v r) : Dp K H v (rowD r) := by
  obtain ⟨a, rfl, h⟩ := h
  exact .tup (SqT.of h) (.cons (kD_dp r.1) (.cons (.int _) (.cons (.int _) .nil)))
theorem rows_dp {K : PySem.W.Frag} {H : Hp} : ∀ {us : List V} {rs : List RowT}, Paired (RowAt H) us rs → DpAll K H us (rs.map rowD)
  | _, _, .nil => .nil
  | _, _, .cons h t => .cons h.dp (rows_dp t)
theorem rows_plain : ∀ rs : List RowT, PyData.plainAll (rs.map rowD) = true
  | [] => by simp [PyData.plainAll]
  | r :: l => by
    have : PyData.plain (rowD r) = true := by simp [rowD, PyData.plain, PyData.plainAll, kD_plain]
    simp [PyData.plainAll, this, rows_plain l]
theorem rows_depth : ∀ rs : List RowT, PyData.depthAll (rs.map rowD) ≤ 1
  | [] => by simp [PyData.depthAll]
  | r :: l => by
    have h1 := rows_depth l
    have h2 : PyData.depth (rowD r) ≤ 1 := by simp [rowD, PyData.depth, PyData.depthAll, kD_depth]
    simp only [List.map_cons, PyData.depthAll]
    omega
theorem kindF_snoc {st : Stn} {i : Nat} {it : Item} (k : Str) (h : st[i]? = some it) : (st.take (i + 1)).filter (itKd k) = (st.take i).filter (itKd k) ++ (if itKd k it = true then [it] else []) := by
  rw [take_snoc h, List.filter_append]
  congr 1
  by_cases q : itKd k it = true <;> simp [q]
theorem old_snoc {so : So} {st : Stn} {i : Nat} {p : Str × Int} (h : so[i]? = some p) : old (so.take (i + 1)) st = old (so.take i) st ++ (if 0 < p.2 - cnt st p.1 then [(p.1, p.2 - cnt st p.1)] else []) := by
  unfold old
  rw [take_snoc h, List.map_append, List.filter_append]
  congr 1
  by_cases q : 0 < p.2 - cnt st p.1
  · rw [if_pos q]
    exact List.filter_cons_of_pos (decide_eq_true q)
  · rw [if_neg q]
    exact List.filter_cons_of_neg (by simpa using q)
theorem paired_split {α β : Type} {R : α → β → Prop} {y : β} : ∀ {ys : List β} {xs : List α}, Paired R xs (ys ++ [y]) → ∃ us v, xs = us ++ [v] ∧ Paired R us ys ∧ R v y
  | [], _, .cons h .nil => ⟨[], _, rfl, .nil, h⟩
  | _ :: ys, _, .cons h t => by
    obtain ⟨us, v, e, p, r⟩ := paired_split t
    exact ⟨_ :: us, v, by rw [e]; rfl, .cons h p, r⟩
section
variable {P : Program} {w : World} {K : PySem.W.Frag} {mg : Str → Option Value} {base : Heap}
def pr_rows_at : Pr := fun vs H Q => ∃ (x c t : Addr) (ru : Ru) (nu so : So) (st : Stn), vs = [.ref c, .ref t] ∧ CaseAt H x c ru nu ∧ RuOk ru ∧ SoOk nu ∧ SoOf nu so ∧ StAt H t st ∧ StOk ru so st ∧
  ∀ l us H', Same H H' → H' l = some (.lst us) → Paired (RowAt H') us (rowsAt ru so st) → Q (.ref l) H'
theorem sc_l_rows_at : FnScope ["_law_case", "_law_standing", "_law_barred", "_law_found", "_law_item", "_law_at", "_law_each", "_law_kind", "_law_many", "_law_row", "_law_last", "_law_place"] ["_law_case", "_law_standing"] (defScope s_l_rows_at) := ⟨rfl, rfl, rfl, by decide +kernel, rfl, by decide +kernel, by decide +kernel⟩
theorem ok_l_rows_at (T : T K mg) : Ok P w K mg base 1 (He.ga K "_law_rows_at") pr_rows_at := by
  refine Dn.ok T.l_rows_at sc_l_rows_at (fun _ _ _ _ _ _ us hl => match us, hl with | [_, _], _ => rfl) (fun vs H Q h => ?_) fun cdv A outer s H vs Q E hr h => ?_
  · obtain ⟨_, _, _, _, _, _, _, rfl, _⟩ := h
    rfl
  obtain ⟨x0, c, t, ru, nu, so, st, rfl, CA, rk, nk, of, St, ok, h⟩ := h
  obtain ⟨wa, sa, nd, h1, h2, h3, h4, _⟩ := id CA
  obtain ⟨xs, hx, px⟩ := id St
  have el : xs.length = st.length := Paired.length px
  have hl := stok_len rk ok
  have n0 := rk.n0
  have w1 := rk.w1
  have w4 := rk.w4
  have esl := rk.sl
  have eln := ok.len
  have sk := of.ok nk
  have l3 := sk.l3
  have ndk := ks_nodup nk.nd
  have hz2 : ∀ n : Nat, n ≤ 200 → n ≤ sizeLine := fun n hn => by rw [sizeLine_eq]; omega
  have hz3 : ∀ n : Nat, n < 200 → n < sizeLine := fun n hn => by rw [sizeLine_eq]; omega
  refine ⟨_, (pss_cons (ps_par (i := 2) (j := 3) rfl sc_l_rows_at.nd rfl rfl (by decide) rfl rfl (pa_cons (pe_lc (own := [("_law_item", 4)]) (g := gName 4) rfl sc_l_rows_at.nd  (piT (K := K) rfl (pe_slice (slT (K := K) rfl) (pv 1) po_none (po_some (pe_dget (hu_of hr) (pv 0) pe_str (fun _ _ => rfl))))) (blkOk_by (N := ["_law_case", "_law_standing", "_law_barred", "_law_found", "_law_item", "_law_at", "_law_each", "_law_kind", "_law_many", "_law_row", "_law_last", "_law_place"]) (sc := defScope s_l_rows_at) (by decide +kernel)) (fun _ _ _ _ _ => pg_name (i := 4) sc_l_rows_at.nd rfl (by first | exact .inl rfl | exact .inr rfl)) (fun _ _ _ _ _ => (pts_one (pt_cmpR (op_neP (K := K) rfl (by exact hr.units)) (pv 4) (pe_tup pa_nil) (nomark _)))) (fun _ _ _ _ _ => (pe_ix (ixT (K := K) rfl) (pv 4) pe_int (fun _ _ => rfl)))) (pa_cons (pe_lst pa_nil) pa_nil)) (by rfl)) (pss_cons (ps_for PassesOwn.never rfl (pi_enumT rfl T.z_enumerate (pa_cons (pv 1) pa_nil)) (pg_tup rfl (pgs_cons (pg_name (i := 5) sc_l_rows_at.nd rfl (by first | exact .inl rfl | exact .inr rfl)) (pgs_cons (pg_name (i := 4) sc_l_rows_at.nd rfl (by first | exact .inl rfl | exact .inr rfl)) pgs_nil))) (pss_one (ps_if (pt_cmpR (op_neP (K := K) rfl (by exact hr.units)) (pv 4) (pe_tup pa_nil) (nomark _)) (pss_cons (ps_set (i := 6) sc_l_rows_at.nd rfl (by first | exact .inl rfl | exact .inr rfl) (pe_ix (ixT (K := K) rfl) (pe_dget (hu_of hr) (pv 0) (pe_ix (ixL (K := K) rfl) (pe_lst (pa_cons pe_str (pa_cons pe_str pa_nil))) (pe_callTy call_int1 rfl T.z_int b_int (pa_cons (pe_ix (ixT (K := K) rfl) (pv 4) pe_int (fun _ _ => rfl)) pa_nil)) (fun _ _ => rfl)) (fun _ _ => rfl)) (pv 5) (fun _ _ => rfl))) (pss_one (ps_expr (pe_bm PySem.F.plainAttrs_list PySem.F.slot_list_append PySem.F.type_list_append mt_append (pv 3) (pa_cons (pe_tup (pa_cons (pe_op op_add (pv 5) pe_int) (pa_cons pe_int (pa_cons (pe_op op_mul (pv 6) (pe_callTy call_int1 rfl T.z_int b_int (pa_cons (pe_cmpR (ninQ (K := K) rfl) (pe_ix (ixT (K := K) rfl) (pv 4) pe_int (fun _ _ => rfl)) (pv 2) (by rfl)) pa_nil))) pa_nil)))) pa_nil))))) pss_nil))) (pss_cons (ps_for PassesOwn.never rfl (piL (K := K) rfl (pe_callB (call_sortedD rfl) rfl T.z_sorted b_sorted (pa_cons (pe_dget (hu_of hr) (pv 0) pe_str (fun _ _ => rfl)) pa_nil))) (pg_name (i := 7) sc_l_rows_at.nd rfl (by first | exact .inl rfl | exact .inr rfl)) (pss_cons (ps_set (i := 8) sc_l_rows_at.nd rfl (by first | exact .inl rfl | exact .inr rfl) (pe_op op_sub (pe_dget (hu_of hr) (pe_dget (hu_of hr) (pv 0) pe_str (fun _ _ => rfl)) (pv 7) (fun _ _ => rfl)) (pe_callB (lenK (K := K) rfl) rfl T.z_len b_len (pa_cons (pe_lc (own := [("_law_item", 4)]) (g := gName 4) rfl sc_l_rows_at.nd  (piT (K := K) rfl (pv 1)) (blkOk_by (N := ["_law_case", "_law_standing", "_law_barred", "_law_found", "_law_item", "_law_at", "_law_each", "_law_kind", "_law_many", "_law_row", "_law_last", "_law_place"]) (sc := defScope s_l_rows_at) (by decide +kernel)) (fun _ _ _ _ _ => pg_name (i := 4) sc_l_rows_at.nd rfl (by first | exact .inl rfl | exact .inr rfl)) (fun _ _ _ _ _ => (pts_one (PW.pt (pw_and (pt_cmpR (op_neP (K := K) rfl (by exact hr.units)) (pv 4) (pe_tup pa_nil) (nomark _)) (pw_and1 (pt_cmpR op_eq (pe_ix (ixT (K := K) rfl) (pv 4) pe_int (fun _ _ => rfl)) (pv 7) (nomark _))))))) (fun _ _ _ _ _ => (pv 4))) pa_nil)))) (pss_one (ps_if (pt_cmpR op_gt (pv 8) pe_int (nomark _)) (pss_one (ps_expr (pe_bm PySem.F.plainAttrs_list PySem.F.slot_list_append PySem.F.type_list_append mt_append (pv 3) (pa_cons (pe_tup (pa_cons (pv 7) (pa_cons (pv 8) (pa_cons (pe_op op_mul (pe_ix (ixT (K := K) rfl) (pe_dget (hu_of hr) (pv 0) pe_str (fun _ _ => rfl)) (pe_un un_neg pe_int) (fun _ _ => rfl)) (pe_callTy call_int1 rfl T.z_int b_int (pa_cons (pe_cmpR (ninQ (K := K) rfl) (pv 7) (pv 2) (by rfl)) pa_nil))) pa_nil)))) pa_nil)))) pss_nil)))) (pss_cons (ps_if (pt_cmpR (op_neP (K := K) rfl (by exact hr.units)) (pe_lc (own := [("_law_row", 9)]) (g := gName 9) rfl sc_l_rows_at.nd  (piL (K := K) rfl (pv 3)) (blkOk_by (N := ["_law_case", "_law_standing", "_law_barred", "_law_found", "_law_item", "_law_at", "_law_each", "_law_kind", "_law_many", "_law_row", "_law_last", "_law_place"]) (sc := defScope s_l_rows_at) (by decide +kernel)) (fun _ _ _ _ _ => pg_name (i := 9) sc_l_rows_at.nd rfl (by first | exact .inl rfl | exact .inr rfl)) (fun _ _ _ _ _ => (pts_one (pt_cmpR op_gt (pe_ix (ixT (K := K) rfl) (pv 9) pe_int (fun _ _ => rfl)) pe_int (nomark _)))) (fun _ _ _ _ _ => (pv 9))) (pe_lst pa_nil) (nomark _)) (pss_one (ps_ret (pv 3))) pss_nil) (pss_cons (ps_set (i := 10) sc_l_rows_at.nd rfl (by first | exact .inl rfl | exact .inr rfl) (pe_ix (ixT (K := K) rfl) (pe_ix (ixL (K := K) rfl) (pv 3) (pe_un un_neg pe_int) (fun _ _ => rfl)) pe_int (fun _ _ => rfl))) (pss_cons (ps_if (pt_val (pe_callB (isiK (K := K) rfl) rfl T.z_isinstance b_isinstance (pa_cons (pv 10) (pa_cons (pe_bltn (v := .ty "str") rfl T.z_str b_str rfl) pa_nil)))) (pss_one (ps_ret (pe_lc (own := [("_law_place", 11), ("_law_many", 8), ("_law_each", 6)]) (g := gTup K 3 (gCons (gName 11) (gCons (gName 8) (gCons (gName 6) gNil)))) (tt := tYes) rfl sc_l_rows_at.nd  (piL (K := K) rfl (pv 3)) (blkOk_by (N := ["_law_case", "_law_standing", "_law_barred", "_law_found", "_law_item", "_law_at", "_law_each", "_law_kind", "_law_many", "_law_row", "_law_last", "_law_place"]) (sc := defScope s_l_rows_at) (by decide +kernel)) (fun _ _ _ _ _ => pg_tup rfl (pgs_cons (pg_name (i := 11) sc_l_rows_at.nd rfl (by first | exact .inl rfl | exact .inr rfl)) (pgs_cons (pg_name (i := 8) sc_l_rows_at.nd rfl (by first | exact .inl rfl | exact .inr rfl)) (pgs_cons (pg_name (i := 6) sc_l_rows_at.nd rfl (by first | exact .inl rfl | exact .inr rfl)) pgs_nil)))) (fun _ _ _ _ _ => pts_nil) (fun _ _ _ _ _ => (pe_tup (pa_cons (pv 11) (pa_cons (pv 8) (pa_cons (pe_callTy call_int1 rfl T.z_int b_int (pa_cons (pe_callB (isiK (K := K) rfl) rfl T.z_isinstance b_isinstance (pa_cons (pv 11) (pa_cons (pe_bltn (v := .ty "str") rfl T.z_str b_str rfl) pa_nil))) pa_nil)) pa_nil)))))))) pss_nil) (pss_one (ps_ret (pe_lc (own := [("_law_place", 11), ("_law_many", 8), ("_law_each", 6)]) (g := gTup K 3 (gCons (gName 11) (gCons (gName 8) (gCons (gName 6) gNil)))) (tt := tYes) rfl sc_l_rows_at.nd  (piL (K := K) rfl (pv 3)) (blkOk_by (N := ["_law_case", "_law_standing", "_law_barred", "_law_found", "_law_item", "_law_at", "_law_each", "_law_kind", "_law_many", "_law_row", "_law_last", "_law_place"]) (sc := defScope s_l_rows_at) (by decide +kernel)) (fun _ _ _ _ _ => pg_tup rfl (pgs_cons (pg_name (i := 11) sc_l_rows_at.nd rfl (by first | exact .inl rfl | exact .inr rfl)) (pgs_cons (pg_name (i := 8) sc_l_rows_at.nd rfl (by first | exact .inl rfl | exact .inr rfl)) (pgs_cons (pg_name (i := 6) sc_l_rows_at.nd rfl (by first | exact .inl rfl | exact .inr rfl)) pgs_nil)))) (fun _ _ _ _ _ => pts_nil) (fun _ _ _ _ _ => (pe_tup (pa_cons (pv 11) (pa_cons (pv 8) (pa_cons (pe_callTy call_int1 rfl T.z_int b_int (pa_cons (pe_cmpR op_eq (pv 11) (pv 10) (nomark _)) pa_nil)) pa_nil)))))))))))))), ?_⟩
  refine ⟨_, rfl, _, rfl, c, _, rfl, DGet.k (k := .inr "spread") h1, ru.n, rfl, ?_⟩
  refine slT_of hx fun p H1 s1 hp => ?_
  have ecut : cutV xs none (some ru.n) = xs.take ru.n.toNat := by
    have := cutV_to (xs := xs) (n := ru.n.toNat)
    rwa [Int.toNat_of_nonneg n0] at this
  rw [ecut] at hp
  have pt := paired_take ru.n.toNat (Paired.mapP px fun _ _ z => z.mono s1.tk)
  have elt : (xs.take ru.n.toNat).length = (st.take ru.n.toNat).length := Paired.length pt
  refine ⟨p, rfl, ⟨_, SqT.of hp⟩, fun bl hbl => ?_⟩
  refine lc_go rel_same walk_tup hbl (sms _) (fun i => ((st.take ru.n.toNat).take i).filterMap barF) (fun _ v n => v = V.str n) rfl (fun H2 s2 => SqT.of (s2 _ _ hp)) ?_ ?_
  · rintro i x H2 H' hi I ⟨rfl, e2⟩
    obtain ⟨it, hi2, hit⟩ := paired_at pt e2
    refine ⟨rfl, _, rfl, by show 0 ≤ sizeLine; decide, fun p hp => ?_⟩
    have s2 := Same.up (sms H') hp (o := .tup [])
    have hit1 : ItAt _ x it := hit.mono (I.rl.trans s2).tk
    refine ⟨itD it, itD none, hit1.dp, (show ItAt _ (V.ref p) none from ⟨p, rfl, upd_same⟩).dp, itD_plain _, itD_plain _, by have := itD_depth it; omega, _, rfl, ?_⟩
    have hi63 : i < 1000 := by rw [elt, List.length_take] at hi; omega
    cases it with
    | none => exact iteFe (by rw [itD_eqv]; rfl) (I.skip rel_same hbl tkStr s2 (by rw [bar_snoc hi2]; simp [barF]))
    | some kb =>
      obtain ⟨k, b⟩ := kb
      obtain ⟨c, rfl, hc⟩ := hit1
      exact iteTe (by rw [itD_eqv]; rfl) ⟨_, rfl, _, _, _, _, rfl, rfl, SqT.of hc, rfl, I.step rel_same hbl tkStr hi63 s2 (by rw [bar_snoc hi2]; rfl) rfl⟩
  intro us0 H2 hb2 s2 p2
  have hbb : H2 bl = some (.lst ((barred ru.n st).map V.str)) := by
    rw [hb2, paired_eq p2, elt, List.take_length]
    rfl
  refine ⟨Nat.zero_le _, fun F hF => ⟨_, _, rfl, ?_⟩⟩
  have s12 := s1.trans s2
  have s3 := s12.up hF (o := .lst [])
  have hF0 : H F = none := s12.free hF
  have nbF : bl ≠ F := ne_of_none hbb hF
  have hb3 := (sms H2).up hF (o := .lst []) _ _ hbb
  refine ⟨_, rfl, t, xs, rfl, SqT.of (s3 _ _ hx), ?_⟩
  refine for_it walk_enumT (fun i σ H' => ∃ v4 v5 v6 us, σ = [some (.ref c), some (.ref t), some (.ref bl), some (.ref F), v4, v5, v6, none, none, none, none, none] ∧ Same H H' ∧ H' bl = some (.lst ((barred ru.n st).map V.str)) ∧ H' F = some (.lst us) ∧ Paired (RowAt H') us ((agesFrom 0 (st.take i)).map (rowA ru (barred ru.n st) st)))
    ⟨none, none, none, [], rfl, s3, hb3, upd_same, .nil⟩ (fun i σ H' _ ⟨_, _, _, _, _, s4, _⟩ => SqT.of (s4 _ _ hx)) ?_ ?_
  · rintro i x σ H3 H' hi ⟨v4, v5, v6, us, rfl, s4, hbl4, hF4, pus⟩ ⟨q, x1, x2, rfl, hq, rfl, e1, e2⟩
    cases e1
    obtain ⟨it, hi2, hit⟩ := paired_at px e2
    have s5 := (sms H3).up hq (o := .tup [.int (i : Nat), x2])
    refine ⟨q, _, rfl, SqT.of upd_same, rfl, _, _, rfl, _, _, rfl, rfl, ?_⟩
    refine ⟨_, rfl, by show 0 ≤ sizeLine; decide, fun p0 hp0 => ?_⟩
    have s6 := s5.up hp0 (o := .tup [])
    have hit1 : ItAt _ x2 it := hit.mono (s4.trans s6).tk
    have lus : us.length ≤ 3 := by
      have a1 := Paired.length pus
      have a2 := ages_len (st := st.take i) (i := 0)
      rw [List.length_map] at a1
      rw [List.length_take] at a2
      omega
    refine ⟨itD it, itD none, hit1.dp, (show ItAt _ (V.ref p0) none from ⟨p0, rfl, upd_same⟩).dp, itD_plain _, itD_plain _, by have := itD_depth it; omega, _, rfl, ?_⟩
    have hbl6 := s6 _ _ hbl4
    have hF6 := s6 _ _ hF4
    have s46 := s4.trans s6
    generalize hH6 : upd (upd H3 q (.tup [.int (i : Nat), x2])) p0 (.tup []) = H6 at *
    cases it with
    | none =>
      refine iteFe (by rw [itD_eqv]; rfl) ⟨_, _, _, us, rfl, s46, hbl6, hF6, ?_⟩
      rw [ages_snoc hi2]
      simp only [agesF, if_true, List.append_nil]
      exact Paired.mapP pus fun _ _ z => tkRow s6.tk z
    | some kb =>
      obtain ⟨k, b⟩ := kb
      obtain ⟨ia, rfl, hia⟩ := hit1
      have hia' : H6 ia = some (.tup [.str k, .bl b]) := hia
      refine iteTe (by rw [itD_eqv]; rfl) ?_
      have wv : wtA ru (barred ru.n st) st (((i : Nat) : Int) + 1) = if k ∈ barred ru.n st then 0 else ((if b = true then ru.s else ru.w)[i]?).getD 0 := by
        unfold wtA
        have : (((i : Nat) : Int) + 1 - 1).toNat = i := by omega
        rw [this, hi2]
      have hib := (List.getElem?_eq_some_iff.mp hi2).1
      have e9 : (agesFrom 0 (st.take (i + 1))).map (rowA ru (barred ru.n st) st) = (agesFrom 0 (st.take i)).map (rowA ru (barred ru.n st) st) ++ [rowA ru (barred ru.n st) st (((i : Nat) : Int) + 1)] := by
        rw [ages_snoc hi2, List.map_append]
        rfl
      -- the row is laid
      have fin : ∀ (H7 : Hp) (p1 : Addr) (m : Int), Same H6 H7 → H7 p1 = none → m = wtA ru (barred ru.n st) st (((i : Nat) : Int) + 1) → ∀ v6', ∃ v4 v5 v6 us', [some (.ref c), some (.ref t), some (.ref bl), some (.ref F), some (V.ref ia), some (V.int (i : Nat)), v6', none, none, none, none, none] = [some (V.ref c), some (.ref t), some (.ref bl), some (.ref F), v4, v5, v6, none, none, none, none, none] ∧ Same H (upd (upd H7 p1 (.tup [.int (((i : Nat) : Int) + 1), .int 1, .int m])) F (.lst (us ++ [.ref p1]))) ∧ (upd (upd H7 p1 (.tup [.int (((i : Nat) : Int) + 1), .int 1, .int m])) F (.lst (us ++ [.ref p1]))) bl = some (.lst ((barred ru.n st).map V.str)) ∧ (upd (upd H7 p1 (.tup [.int (((i : Nat) : Int) + 1), .int 1, .int m])) F (.lst (us ++ [.ref p1]))) F = some (.lst us') ∧ Paired (RowAt (upd (upd H7 p1 (.tup [.int (((i : Nat) : Int) + 1), .int 1, .int m])) F (.lst (us ++ [.ref p1])))) us' ((agesFrom 0 (st.take (i + 1))).map (rowA ru (barred ru.n st) st)) := by
        intro H7 p1 m s7 hp1 em v6'
        have hF8 := (s7.up hp1 (o := .tup [.int (((i : Nat) : Int) + 1), .int 1, .int m])) _ _ hF6
        have k8 : Tk (upd H7 p1 (.tup [.int (((i : Nat) : Int) + 1), .int 1, .int m])) (upd (upd H7 p1 (.tup [.int (((i : Nat) : Int) + 1), .int 1, .int m])) F (.lst (us ++ [.ref p1]))) := Tk.at hF8 (fun xs z => by cases z)
        refine ⟨_, _, _, us ++ [.ref p1], rfl, ((s46.trans s7).up hp1).new hF0, ?_, upd_same, ?_⟩
        · rw [upd_ne nbF]
          exact (s7.up hp1) _ _ hbl6
        · rw [e9]
          exact paired_snoc ⟨p1, rfl, by rw [em] at k8 ⊢; exact k8 _ _ upd_same⟩ (Paired.mapP pus fun _ _ z => tkRow ((s6.tk.trans (s7.tk.trans (Tk.new hp1))).trans k8) z)
      have mulc : ∀ m : Int, CMul m 0 ∧ CMul m 1 := fun m => ⟨.inr ⟨by decide, by decide⟩, .inr ⟨by decide, by decide⟩⟩
      cases b with
      | true =>
        have his : i < ru.s.length := by omega
        have hb9 := rk.sp _ (List.getElem_mem his)
        refine ⟨_, rfl, by show 2 ≤ sizeLine; decide, fun a1 ha1 => ?_⟩
        have s7 := (sms H6).up ha1 (o := .lst [.str "weights", .str "skipped"])
        refine ⟨_, rfl, _, _, _, _, rfl, rfl, SqT.of (s7 _ _ hia'), rfl, .inr ⟨true, rfl, a1, _, _, .str "skipped", rfl, rfl, SqL.of upd_same, atI_nat (j := 1) rfl, c, .ref sa, rfl, DGet.k (k := .inr "skipped") ((s46.trans s7) _ _ h1), _, rfl, sa, _, _, .int ru.s[i], rfl, rfl, SqT.of ((s46.trans s7) _ _ h3), atI_nat (by rw [List.getElem?_map, List.getElem?_eq_getElem his]; rfl), ?_⟩⟩
        have wv' : wtA ru (barred ru.n st) st (((i : Nat) : Int) + 1) = if k ∈ barred ru.n st then 0 else ru.s[i] := by rw [wv]; simp [his]
        refine ⟨_, rfl, .inl ⟨rfl, _, SqL.of (s7 _ _ hF6)⟩, _, rfl, _, _, rfl, rfl, _, rfl, _, rfl, _, _, _, _, rfl, rfl, SqT.of (s7 _ _ hia'), rfl, _, rfl, bl, _, rfl, .inl (SqL.of (s7 _ _ hbl6)), rfl, flat_strs _, .inr ⟨_, rfl, _, _, rfl, rfl, .inl ⟨by omega, by omega⟩, by show 3 ≤ sizeLine; decide, fun p1 hp1 => ⟨F, us, _, rfl, rfl, (s7.up hp1) _ _ hF6, hz3 _ (by omega), ?_⟩⟩⟩
        refine fin _ p1 _ s7 hp1 ?_ _
        rw [wv']
        by_cases hm : k ∈ barred ru.n st
        · have em : (if true = true then !inV (.str k) ((barred ru.n st).map V.str) else inV (.str k) ((barred ru.n st).map V.str)) = false := by rw [inV_str, decide_eq_true hm]; rfl
          rw [if_pos hm]
          show ru.s[i] * (if (if true = true then !inV (.str k) ((barred ru.n st).map V.str) else inV (.str k) ((barred ru.n st).map V.str)) = true then 1 else 0) = 0
          rw [em]
          simp
        · have em : (if true = true then !inV (.str k) ((barred ru.n st).map V.str) else inV (.str k) ((barred ru.n st).map V.str)) = true := by rw [inV_str, decide_eq_false hm]; rfl
          rw [if_neg hm]
          show ru.s[i] * (if (if true = true then !inV (.str k) ((barred ru.n st).map V.str) else inV (.str k) ((barred ru.n st).map V.str)) = true then 1 else 0) = ru.s[i]
          rw [em]
          simp
      | false =>
        have his : i < ru.w.length := by omega
        have hb9 := rk.wp _ (List.getElem_mem his)
        refine ⟨_, rfl, by show 2 ≤ sizeLine; decide, fun a1 ha1 => ?_⟩
        have s7 := (sms H6).up ha1 (o := .lst [.str "weights", .str "skipped"])
        refine ⟨_, rfl, _, _, _, _, rfl, rfl, SqT.of (s7 _ _ hia'), rfl, .inr ⟨false, rfl, a1, _, _, .str "weights", rfl, rfl, SqL.of upd_same, atI_nat (j := 0) rfl, c, .ref wa, rfl, DGet.k (k := .inr "weights") ((s46.trans s7) _ _ h1), _, rfl, wa, _, _, .int ru.w[i], rfl, rfl, SqT.of ((s46.trans s7) _ _ h2), atI_nat (by rw [List.getElem?_map, List.getElem?_eq_getElem his]; rfl), ?_⟩⟩
        have wv' : wtA ru (barred ru.n st) st (((i : Nat) : Int) + 1) = if k ∈ barred ru.n st then 0 else ru.w[i] := by rw [wv]; simp [his]
        refine ⟨_, rfl, .inl ⟨rfl, _, SqL.of (s7 _ _ hF6)⟩, _, rfl, _, _, rfl, rfl, _, rfl, _, rfl, _, _, _, _, rfl, rfl, SqT.of (s7 _ _ hia'), rfl, _, rfl, bl, _, rfl, .inl (SqL.of (s7 _ _ hbl6)), rfl, flat_strs _, .inr ⟨_, rfl, _, _, rfl, rfl, .inl ⟨by omega, by omega⟩, by show 3 ≤ sizeLine; decide, fun p1 hp1 => ⟨F, us, _, rfl, rfl, (s7.up hp1) _ _ hF6, hz3 _ (by omega), ?_⟩⟩⟩
        refine fin _ p1 _ s7 hp1 ?_ _
        rw [wv']
        by_cases hm : k ∈ barred ru.n st
        · have em : (if true = true then !inV (.str k) ((barred ru.n st).map V.str) else inV (.str k) ((barred ru.n st).map V.str)) = false := by rw [inV_str, decide_eq_true hm]; rfl
          rw [if_pos hm]
          show ru.w[i] * (if (if true = true then !inV (.str k) ((barred ru.n st).map V.str) else inV (.str k) ((barred ru.n st).map V.str)) = true then 1 else 0) = 0
          rw [em]
          simp
        · have em : (if true = true then !inV (.str k) ((barred ru.n st).map V.str) else inV (.str k) ((barred ru.n st).map V.str)) = true := by rw [inV_str, decide_eq_false hm]; rfl
          rw [if_neg hm]
          show ru.w[i] * (if (if true = true then !inV (.str k) ((barred ru.n st).map V.str) else inV (.str k) ((barred ru.n st).map V.str)) = true then 1 else 0) = ru.w[i]
          rw [em]
          simp
  rintro σ H3 ⟨v4, v5, v6, us, rfl, s4, hbl4, hF4, pus⟩
  rw [el, List.take_length] at pus
  have lus : us.length ≤ 3 := by
    have a1 := Paired.length pus
    have a2 := ages_len (st := st) (i := 0)
    rw [List.length_map] at a1
    omega
  refine ⟨_, rfl, c, _, rfl, DGet.k (k := .inr "numbers") (s4 _ _ h1), nd, _, nu.map (·.1), rfl, .inl (s4 _ _ h4), by rw [DI_keys, ks_keys]; simp, by rw [List.length_map]; have := nk.l3; omega, fun ys q py sy hq => ⟨q, rfl, ⟨_, SqL.of upd_same⟩, ?_⟩⟩
  have eys : ys = so.map (·.1) := sorted_uniq (py.trans (of.perm.map _).symm) sy of.srt
  have s5 := (sms H3).up hq (o := .lst (ys.map V.str))
  have nqF : q ≠ F := Ne.symm (ne_of_none hF4 hq)
  refine for_it (walk_list (xs := ys.map V.str)) (fun i σ H' => ∃ v4 v5 v6 v7 v8 us, σ = [some (.ref c), some (.ref t), some (.ref bl), some (.ref F), v4, v5, v6, v7, v8, none, none, none] ∧ Same H H' ∧ H' bl = some (.lst ((barred ru.n st).map V.str)) ∧ H' q = some (.lst (ys.map V.str)) ∧ H' F = some (.lst us) ∧ Paired (RowAt H') us ((agesOf st).map (rowA ru (barred ru.n st) st) ++ (old (so.take i) st).map (rowK ru (barred ru.n st))))
    ⟨v4, v5, v6, none, none, us, rfl, s4.trans s5, s5 _ _ hbl4, upd_same, s5 _ _ hF4, ?_⟩ (fun i σ H' _ ⟨_, _, _, _, _, _, _, _, _, e, _⟩ => SqL.of e) ?_ ?_
  · have e0 : (old (so.take 0) st).map (rowK ru (barred ru.n st)) = [] := by simp [old]
    rw [e0, List.append_nil]
    exact Paired.mapP pus fun _ _ z => tkRow s5.tk z
  · rintro i x σ H4 H' hi ⟨v4, v5, v6, v7, v8, us, rfl, s6, hbl6, hq6, hF6, pus⟩ ⟨rfl, e2⟩
    rw [List.getElem?_map, eys, List.getElem?_map, Option.map_map] at e2
    obtain ⟨p, hp, ex⟩ := Option.map_eq_some_iff.mp e2
    have ex : V.str p.1 = x := ex
    subst ex
    have hpm := of.perm.mem_iff.mp (List.mem_of_getElem? hp)
    have lk : look (ks nu) (.inr p.1) = some p.2 := look_mem ndk (List.mem_map.mpr ⟨p, hpm, rfl⟩)
    have np := nk.np p hpm
    have lus2 : us.length ≤ 6 := by
      have a1 := Paired.length pus
      have a2 := ages_len (st := st) (i := 0)
      have a3 := old_len (so.take i) st
      rw [List.length_append, List.length_map, List.length_map] at a1
      rw [List.length_take] at a3
      unfold agesOf at a1
      omega
    refine ⟨_, rfl, c, _, rfl, DGet.k (k := .inr "numbers") (s6 _ _ h1), _, rfl, nd, _, rfl, DGet.at1 (k := .inr p.1) (s6 _ _ h4) lk, ?_⟩
    refine ⟨_, rfl, t, rfl, ⟨_, SqT.of (s6 _ _ hx)⟩, fun D hD => ?_⟩
    refine lc_go rel_same (walk_tup (xs := xs)) hD (sms _) (fun i => (st.take i).filter (itKd p.1)) (fun H v it => ItAt H v it) rfl (fun H2 s2 => SqT.of ((s6.trans s2) _ _ hx)) ?_ ?_
    · rintro i2 x2 H5 H6 hi2 I ⟨rfl, e2⟩
      obtain ⟨it, hi2', hit⟩ := paired_at px e2
      refine ⟨rfl, _, rfl, by show 0 ≤ sizeLine; decide, fun p0 hp0 => ?_⟩
      have s7 := Same.up (sms H6) hp0 (o := .tup [])
      have hit1 : ItAt _ x2 it := hit.mono (s6.trans (I.rl.trans s7)).tk
      refine ⟨itD it, itD none, hit1.dp, (show ItAt _ (V.ref p0) none from ⟨p0, rfl, upd_same⟩).dp, itD_plain _, itD_plain _, by have := itD_depth it; omega, _, rfl, ?_⟩
      have hi63 : i2 < 1000 := by omega
      cases it with
      | none => exact iteFe (by rw [itD_eqv]; rfl) (iteF (I.skip rel_same hD tkItAt s7 (by rw [kindF_snoc p.1 hi2']; simp [itKd])))
      | some kb =>
        obtain ⟨k, b⟩ := kb
        obtain ⟨a, rfl, ha⟩ := id hit1
        refine iteTe (by rw [itD_eqv]; rfl) ⟨_, rfl, _, _, _, _, rfl, rfl, SqT.of ha, rfl, _, rfl, rfl, _, rfl, ?_⟩
        by_cases qk : k = p.1
        · exact iteTe (decide_eq_true (by rw [qk])) ⟨_, rfl, I.step rel_same hD tkItAt hi63 s7 (by rw [kindF_snoc p.1 hi2', if_pos (by simp [itKd, qk])]) hit1⟩
        · exact iteFe (decide_eq_false (fun z => qk (V.str.inj z))) (I.skip rel_same hD tkItAt s7 (by rw [kindF_snoc p.1 hi2', if_neg (by simp [itKd, qk]), List.append_nil]))
    intro us2 H5 h5 s7 p7
    have s67 := s6.trans s7
    have elen : ((us2.length : Nat) : Int) = cnt st p.1 := by
      rw [Paired.length p7, el, List.take_length]
      unfold cnt
      rw [List.countP_eq_length_filter]
    refine ⟨_, us2.length, rfl, .inl ⟨us2, SqL.of h5, rfl⟩, _, _, rfl, rfl, ?_⟩
    have hF7 := s7 _ _ hF6
    have hbl7 := s7 _ _ hbl6
    refine ⟨_, rfl, _, _, rfl, rfl, _, rfl, ?_⟩
    by_cases hm0 : 0 < p.2 - cnt st p.1
    · refine iteTe (decide_eq_true (by rw [elen]; exact hm0)) ?_
      have hjs : ru.w.length - 1 < ru.w.length := by omega
      have hb9 := rk.wp _ (List.getElem_mem hjs)
      refine ⟨_, rfl, .inl ⟨rfl, _, SqL.of hF7⟩, _, rfl, _, rfl, _, rfl, c, _, rfl, DGet.k (k := .inr "weights") (s67 _ _ h1), _, rfl, wa, _, _, .int ru.w[ru.w.length - 1], rfl, rfl, SqT.of (s67 _ _ h2), ?_, _, rfl, _, rfl, bl, _, rfl, .inl (SqL.of hbl7), rfl, flat_strs _, .inr ⟨_, rfl, _, _, rfl, rfl, .inl ⟨by omega, by omega⟩, by show 3 ≤ sizeLine; decide, fun p1 hp1 => ⟨F, us, _, rfl, rfl, ((sms H5).up hp1) _ _ hF7, hz3 _ (by omega), ?_⟩⟩⟩
      · unfold atI ixN
        rw [List.length_map]
        show ((if (0 : Int) ≤ -1 then _ else if -(ru.w.length : Int) ≤ -1 then some ((-1 + (ru.w.length : Int)).toNat) else none).bind _) = _
        rw [if_neg (by omega), if_pos (by omega), Option.bind_some, show (-1 + (ru.w.length : Int)).toNat = ru.w.length - 1 by omega, List.getElem?_map, List.getElem?_eq_getElem hjs]
        rfl
      have em : ru.w[ru.w.length - 1] * (if (if true = true then !inV (.str p.1) ((barred ru.n st).map V.str) else inV (.str p.1) ((barred ru.n st).map V.str)) = true then 1 else 0) = eachK ru (barred ru.n st) p.1 := by
        unfold eachK
        by_cases hm : p.1 ∈ barred ru.n st
        · have em : (if true = true then !inV (.str p.1) ((barred ru.n st).map V.str) else inV (.str p.1) ((barred ru.n st).map V.str)) = false := by rw [inV_str, decide_eq_true hm]; rfl
          rw [if_pos hm, em]
          simp
        · have em : (if true = true then !inV (.str p.1) ((barred ru.n st).map V.str) else inV (.str p.1) ((barred ru.n st).map V.str)) = true := by rw [inV_str, decide_eq_false hm]; rfl
          rw [if_neg hm, em, List.getElem?_eq_getElem hjs]
          simp
      have fin : ∀ (m2 m3 : Int), m2 = p.2 - cnt st p.1 → m3 = eachK ru (barred ru.n st) p.1 → Same H (upd (upd H5 p1 (.tup [.str p.1, .int m2, .int m3])) F (.lst (us ++ [.ref p1]))) ∧ (upd (upd H5 p1 (.tup [.str p.1, .int m2, .int m3])) F (.lst (us ++ [.ref p1]))) bl = some (.lst ((barred ru.n st).map V.str)) ∧ (upd (upd H5 p1 (.tup [.str p.1, .int m2, .int m3])) F (.lst (us ++ [.ref p1]))) q = some (.lst (ys.map V.str)) ∧ Paired (RowAt (upd (upd H5 p1 (.tup [.str p.1, .int m2, .int m3])) F (.lst (us ++ [.ref p1])))) (us ++ [.ref p1]) ((agesOf st).map (rowA ru (barred ru.n st) st) ++ (old (so.take (i + 1)) st).map (rowK ru (barred ru.n st))) := by
        intro m2 m3 e2 e3
        have k8 : Tk (upd H5 p1 (.tup [.str p.1, .int m2, .int m3])) (upd (upd H5 p1 (.tup [.str p.1, .int m2, .int m3])) F (.lst (us ++ [.ref p1]))) := Tk.at (((sms H5).up hp1) _ _ hF7) (fun xs z => by cases z)
        refine ⟨(s67.up hp1).new hF0, ?_, ?_, ?_⟩
        · rw [upd_ne nbF]
          exact ((sms H5).up hp1) _ _ hbl7
        · rw [upd_ne nqF]
          exact ((sms H5).up hp1) _ _ (s7 _ _ hq6)
        · rw [old_snoc hp, if_pos hm0, List.map_append, ← List.append_assoc]
          exact paired_snoc ⟨p1, rfl, by subst e2 e3; exact k8 _ _ upd_same⟩ (Paired.mapP pus fun _ _ z => tkRow ((s7.tk.trans (Tk.new hp1)).trans k8) z)
      obtain ⟨f1, f2, f3, f4⟩ := fin (p.2 - ((us2.length : Nat) : Int)) _ (by rw [elen]) em
      exact ⟨_, _, _, _, _, us ++ [V.ref p1], rfl, f1, f2, f3, upd_same, f4⟩
    · refine iteFe (decide_eq_false (by rw [elen]; exact hm0)) ⟨_, _, _, _, _, us, rfl, s67, hbl7, s7 _ _ hq6, hF7, ?_⟩
      rw [old_snoc hp, if_neg hm0, List.append_nil]
      exact Paired.mapP pus fun _ _ z => tkRow s7.tk z
  rintro σ H4 ⟨v4, v5, v6, v7, v8, us5, rfl, sY, hblY, hqY, hFY, pY⟩
  have etk : so.take (ys.map V.str).length = so := by rw [List.length_map, eys, List.length_map, List.take_length]
  rw [etk] at pY
  have pY : Paired (RowAt H4) us5 (rows0 ru so st) := pY
  have lus5 : us5.length = (rows0 ru so st).length := Paired.length pY
  have l6 : (rows0 ru so st).length ≤ 6 := by
    have := told_len (ru := ru) (so := so) (st := st) hl l3
    rw [told_rows, List.length_map] at this
    exact this
  refine ⟨_, rfl, F, rfl, ⟨_, SqL.of hFY⟩, fun D hD => ?_⟩
  refine lc_go rel_same (walk_list (xs := us5)) hD (sms _) (fun i => ((rows0 ru so st).take i).filter posR) RowAt rfl (fun H8 s8 => SqL.of (s8 _ _ hFY)) ?_ ?_
  · rintro i x H8 H9 hi I ⟨rfl, e2⟩
    obtain ⟨r, hr, a, rfl, har⟩ := paired_at pY e2
    have har2 := I.rl _ _ har
    refine ⟨rfl, _, rfl, a, _, _, _, rfl, rfl, SqT.of har2, rfl, _, _, rfl, rfl, _, rfl, ?_⟩
    by_cases q0 : 0 < r.2.2
    · refine iteTe (decide_eq_true q0) ⟨_, rfl, I.step rel_same hD tkRow (by omega) (sms _) (z := r) ?_ ⟨a, rfl, har2⟩⟩
      rw [take_snoc hr, List.filter_append]
      simp [posR, q0]
    · refine iteFe (decide_eq_false q0) (I.skip rel_same hD tkRow (sms _) ?_)
      rw [take_snoc hr, List.filter_append]
      simp [posR, q0]
  intro us6 H5 h5 s7 p7
  rw [List.take_of_length_le (by rw [lus5]; exact Nat.le_refl _)] at p7
  refine ⟨Nat.zero_le _, fun e he => ?_⟩
  have s8 := (sms H5).up he (o := .lst [])
  refine ⟨_, _, .lst (SqL.of (s8 _ _ h5)) (rows_dp (Paired.mapP p7 fun _ _ z => tkRow s8.tk z)), .lst (SqL.of upd_same) .nil, plain_list (rows_plain _), nil_plain, Nat.le_trans (depth_list (rows_depth _)) (by decide), _, rfl, ?_⟩
  have s78 := s7.trans s8
  have sZ := sY.trans s78
  have hFZ := s78 _ _ hFY
  have pZ : Paired (RowAt (upd H5 e (.lst []))) us5 (rows0 ru so st) := Paired.mapP pY fun _ _ z => tkRow s78.tk z
  have eany : ((rows0 ru so st).filter posR).isEmpty = !((rows0 ru so st).any posR) := by
    cases hh : (rows0 ru so st).any posR with
    | true =>
      obtain ⟨r, hr, h0⟩ := List.any_eq_true.mp hh
      have : r ∈ (rows0 ru so st).filter posR := List.mem_filter.mpr ⟨hr, h0⟩
      cases hf : (rows0 ru so st).filter posR with
      | nil => rw [hf] at this; cases this
      | cons _ _ => rfl
    | false =>
      have : (rows0 ru so st).filter posR = [] := by
        rw [List.filter_eq_nil_iff]
        intro r hr h0
        have := List.any_eq_true.mpr ⟨r, hr, h0⟩
        rw [hh] at this
        cases this
      rw [this]
      rfl
  have emap : (((rows0 ru so st).filter posR).map rowD).isEmpty = ((rows0 ru so st).filter posR).isEmpty := by simp
  generalize hHZ : upd H5 e (.lst []) = HZ at *
  cases hany : (rows0 ru so st).any posR with
  | true =>
    refine iteTe (by rw [eqv_nil, emap, eany, hany]; rfl) ⟨_, rfl, h F us5 HZ sZ hFZ ?_⟩
    unfold rowsAt
    rw [if_pos hany]
    exact pZ
  | false =>
    refine iteFe (by rw [eqv_nil, emap, eany, hany]; rfl) ?_
    have hne : rows0 ru so st ≠ [] := by
      have := told_ne (ru := ru) sk ok
      rw [told_rows] at this
      intro z
      rw [z] at this
      exact this rfl
    obtain ⟨rs, rl, er⟩ : ∃ rs rl, rows0 ru so st = rs ++ [rl] := ⟨_, _, (List.dropLast_concat_getLast hne).symm⟩
    obtain ⟨us7, la, eus, hla⟩ : ∃ us7 la, us5 = us7 ++ [V.ref la] ∧ HZ la = some (.tup [kV rl.1, .int rl.2.1, .int rl.2.2]) := by
      have pZ2 := pZ
      rw [er] at pZ2
      obtain ⟨u1, v1, e1, _, a, rfl, ha⟩ := paired_split pZ2
      exact ⟨u1, a, e1, ha⟩
    have elast : lastR (rows0 ru so st) = some rl.1 := by
      unfold lastR
      rw [er, List.map_append]
      simp
    refine ⟨_, rfl, _, rfl, F, us5, -1, .ref la, rfl, rfl, SqL.of hFZ, by rw [eus]; exact atI_last _ _, la, _, _, kV rl.1, rfl, rfl, SqT.of hla, rfl, ?_⟩
    cases hkl : rl.1 with
    | inr z =>
      refine ⟨_, rfl, _, _, _, _, true, rfl, .ty "str", .base (.str z), kit_ty (by decide +kernel : kitB "str" "str" = some true), _, rfl, iteT ?_⟩

      refine ⟨_, rfl, F, rfl, ⟨_, SqL.of hFZ⟩, fun D6 hD6 => ?_⟩
      refine lc_go rel_same (walk_list (xs := us5)) hD6 (sms _) (fun i => ((rows0 ru so st).map fun r => (r.1, r.2.1, fbR (lastR (rows0 ru so st)) r.1)).take i) RowAt rfl (fun H8 s8 => SqL.of (s8 _ _ hFZ)) ?_ ?_
      · rintro i x H8 H9 hi I ⟨rfl, e2⟩
        obtain ⟨r, hr, a, rfl, har⟩ := paired_at pZ e2
        have har2 := I.rl _ _ har
        have hi3 : i < 1000 := by omega
        refine ⟨a, _, rfl, SqT.of har2, rfl, _, _, rfl, _, _, rfl, _, _, rfl, rfl, rfl, ?_⟩
        have e7 : ((rows0 ru so st).map fun r => (r.1, r.2.1, fbR (lastR (rows0 ru so st)) r.1))[i]? = some (r.1, r.2.1, fbR (lastR (rows0 ru so st)) r.1) := by rw [List.getElem?_map, hr]; rfl

        have e8 : fbR (lastR (rows0 ru so st)) r.1 = if r.1.isRight = true then 1 else 0 := by rw [elast, hkl]; rfl
        cases hk1 : r.1 with
        | inl a1 =>
          refine ⟨_, rfl, _, rfl, _, rfl, _, _, _, _, false, rfl, .ty "str", .base (.int a1), kit_ty (by decide +kernel : kitB "int" "str" = some false), .inr ⟨_, rfl, by show 3 ≤ sizeLine; decide, fun p hp => I.step rel_same hD6 tkRow hi3 ((sms _).up hp) (take_snoc e7) ⟨p, rfl, ?_⟩⟩⟩
          rw [upd_same]
          show _ = some (HO.tup [kV r.1, .int r.2.1, .int (fbR (lastR (rows0 ru so st)) r.1)])
          rw [e8, hk1]
          rfl
        | inr z1 =>
          refine ⟨_, rfl, _, rfl, _, rfl, _, _, _, _, true, rfl, .ty "str", .base (.str z1), kit_ty (by decide +kernel : kitB "str" "str" = some true), .inr ⟨_, rfl, by show 3 ≤ sizeLine; decide, fun p hp => I.step rel_same hD6 tkRow hi3 ((sms _).up hp) (take_snoc e7) ⟨p, rfl, ?_⟩⟩⟩
          rw [upd_same]
          show _ = some (HO.tup [kV r.1, .int r.2.1, .int (fbR (lastR (rows0 ru so st)) r.1)])
          rw [e8, hk1]
          rfl

      intro us6 H9 h9 s9 p9
      refine h D6 us6 H9 (sZ.trans s9) h9 ?_
      have e9 : rowsAt ru so st = (rows0 ru so st).map fun r => (r.1, r.2.1, fbR (lastR (rows0 ru so st)) r.1) := by
        unfold rowsAt
        rw [if_neg (by rw [hany]; simp)]
      rw [e9]
      rw [List.take_of_length_le (by rw [List.length_map]; exact Nat.le_of_eq lus5.symm)] at p9
      exact p9

    | inl a0 =>
      refine ⟨_, rfl, _, _, _, _, false, rfl, .ty "str", .base (.int a0), kit_ty (by decide +kernel : kitB "int" "str" = some false), _, rfl, iteF ?_⟩

      refine ⟨_, rfl, F, rfl, ⟨_, SqL.of hFZ⟩, fun D6 hD6 => ?_⟩
      refine lc_go rel_same (walk_list (xs := us5)) hD6 (sms _) (fun i => ((rows0 ru so st).map fun r => (r.1, r.2.1, fbR (lastR (rows0 ru so st)) r.1)).take i) RowAt rfl (fun H8 s8 => SqL.of (s8 _ _ hFZ)) ?_ ?_
      · rintro i x H8 H9 hi I ⟨rfl, e2⟩
        obtain ⟨r, hr, a, rfl, har⟩ := paired_at pZ e2
        have har2 := I.rl _ _ har
        have hi3 : i < 1000 := by omega
        refine ⟨a, _, rfl, SqT.of har2, rfl, _, _, rfl, _, _, rfl, _, _, rfl, rfl, rfl, ?_⟩
        have e7 : ((rows0 ru so st).map fun r => (r.1, r.2.1, fbR (lastR (rows0 ru so st)) r.1))[i]? = some (r.1, r.2.1, fbR (lastR (rows0 ru so st)) r.1) := by rw [List.getElem?_map, hr]; rfl

        have e8 : fbR (lastR (rows0 ru so st)) r.1 = if r.1 = .inl a0 then 1 else 0 := by rw [elast, hkl]; rfl
        refine ⟨_, rfl, _, rfl, _, rfl, _, rfl, scal_kk r.1 (.inl a0), .inr ⟨_, rfl, by show 3 ≤ sizeLine; decide, fun p hp => I.step rel_same hD6 tkRow hi3 ((sms _).up hp) (take_snoc e7) ⟨p, rfl, ?_⟩⟩⟩
        rw [upd_same]
        by_cases qk : r.1 = .inl a0
        · simp only [e8, if_pos qk, decide_eq_true (congrArg kV qk), if_true]
        · have : ¬ kV r.1 = kV (.inl a0) := fun z => qk (kV_inj z)
          simp only [e8, if_neg qk, decide_eq_false this, Bool.false_eq_true, if_false]

      intro us6 H9 h9 s9 p9
      refine h D6 us6 H9 (sZ.trans s9) h9 ?_
      have e9 : rowsAt ru so st = (rows0 ru so st).map fun r => (r.1, r.2.1, fbR (lastR (rows0 ru so st)) r.1) := by
        unfold rowsAt
        rw [if_neg (by rw [hany]; simp)]
      rw [e9]
      rw [List.take_of_length_le (by rw [List.length_map]; exact Nat.le_of_eq lus5.symm)] at p9
      exact p9

end
end U

set_option Elab.async false
set_option linter.all false
set_option maxRecDepth 100000
set_option maxHeartbeats 4000000
/-! Chances sum to 1; barred ages. -/
namespace U
open PySem L2
/-- what a chance is: m / u = n / S -/
theorem frac_spec {n S : Int} (hn : 0 ≤ n) (hS : 0 < S) : 0 ≤ (frac n S).1 ∧ (frac n S).1 ≤ n ∧ 0 < (frac n S).2 ∧ (frac n S).2 ≤ S ∧ (frac n S).1 * S = n * (frac n S).2 ∧ (0 < (frac n S).1 ↔ 0 < n) := by
  obtain ⟨a, rfl⟩ := Int.eq_ofNat_of_zero_le hn
  obtain ⟨b, rfl⟩ := Int.eq_ofNat_of_zero_le (Int.le_of_lt hS)
  have hb : 0 < b := by omega
  unfold frac
  simp only [Int.toNat_natCast]
  have g1 : a.gcd b ∣ a := Nat.gcd_dvd_left a b
  have g2 : a.gcd b ∣ b := Nat.gcd_dvd_right a b
  have g0 : 0 < a.gcd b := Nat.gcd_pos_of_pos_right a hb
  obtain ⟨x, hx⟩ := g1
  obtain ⟨y, hy⟩ := g2
  have ex : a / a.gcd b = x := Nat.div_eq_of_eq_mul_right g0 hx
  have ey : b / a.gcd b = y := Nat.div_eq_of_eq_mul_right g0 hy
  rw [ex, ey]
  have hy0 : 0 < y := by
    cases y with
    | zero => rw [Nat.mul_zero] at hy; omega
    | succ y => exact Nat.succ_pos _
  have lex : x ≤ a := by rw [← ex]; exact Nat.div_le_self _ _
  have ley : y ≤ b := by rw [← ey]; exact Nat.div_le_self _ _
  have cross : x * b = a * y := by
    conv => lhs; rw [hy]
    conv => rhs; rw [hx]
    rw [Nat.mul_comm (a.gcd b) x, Nat.mul_assoc]
  refine ⟨by omega, by omega, by omega, by omega, ?_, ?_⟩
  · exact_mod_cast cross
  · constructor
    · intro h
      have : 0 < x := by omega
      have : 0 < a.gcd b * x := Nat.mul_pos g0 this
      omega
    · intro h
      cases x with
      | zero => rw [Nat.mul_zero] at hx; omega
      | succ x => omega
theorem wsum_take {l : List (Key × Int)} {i : Nat} {p : Key × Int} (h : l[i]? = some p) : wsum (l.take (i + 1)) = wsum (l.take i) + p.2 := by
  unfold wsum
  rw [U.take_snoc h, List.map_append, List.sum_append]
  simp
theorem sum_step {tp bt S W n m u : Int} (h : tp * S = bt * W) (hm : m * S = n * u) : (tp * u + m * bt) * S = (bt * u) * (W + n) := by
  have e1 : (tp * u + m * bt) * S = (tp * S) * u + (m * S) * bt := by
    rw [Int.add_mul, Int.mul_assoc tp u S, Int.mul_comm u S, ← Int.mul_assoc, Int.mul_assoc m bt S, Int.mul_comm bt S, ← Int.mul_assoc]
  rw [e1, h, hm, Int.mul_add]
  congr 1
  · rw [Int.mul_assoc, Int.mul_comm W u, ← Int.mul_assoc]
  · rw [Int.mul_comm (n * u) bt, ← Int.mul_assoc, Int.mul_comm bt n, Int.mul_assoc, Int.mul_comm n (bt * u)]
theorem sum_end {tp bt S : Int} (hS : 0 < S) (h : tp * S = bt * S) : tp = bt := Int.eq_of_mul_eq_mul_right (by omega) h
/-! barred ages -/
theorem bar_zero {l : List Int} {k i : Nat} (h : i < k) : ((List.replicate k (0 : Int) ++ l.drop k)[i]?).getD 0 = 0 := by
  rw [List.getElem?_append_left (by rw [List.length_replicate]; exact h), List.getElem?_replicate]
  simp [h]
theorem bar_wtA {ru : Ru} {bs : List Str} {st : Stn} {k : Nat} {a : Int} (h1 : 1 ≤ a) (h : a ≤ k) : wtA (bar ru k) bs st a = 0 := by
  have hi : (a - 1).toNat < k := by omega
  unfold wtA
  split
  · split
    · rfl
    · split
      · exact bar_zero hi
      · exact bar_zero hi
  · rfl
theorem bars_one {ru : Ru} {so : So} {st : Stn} (sk : SoOk so) {k : Nat} {a : Int} (ha : a ≤ k) (c : Can (bar ru k) so st (.inl a)) : ∀ p, Can (bar ru k) so st p → p = .inl a := by
  have pl := c.pl
  obtain ⟨j, kk, b, hj, ea⟩ := mem_agesFrom.mp pl
  have h1 : 1 ≤ a := by omega
  have nd := told_nodup (ru := bar ru k) (st := st) sk.nd
  obtain ⟨n, hn, n0⟩ := c
  have ht : (Sum.inl a, wtA (bar ru k) (barred (bar ru k).n st) st a) ∈ told (bar ru k) so st := List.mem_append_left _ (List.mem_map.mpr ⟨a, pl, rfl⟩)
  have lt := look_mem nd ht
  simp only at lt
  rw [bar_wtA h1 ha] at lt
  have hnot : ¬ anyW (told (bar ru k) so st) = true := fun z => by
    unfold allw at hn
    rw [if_pos z, lt] at hn
    cases hn
    omega
  have key : ∀ p m, look (allw (bar ru k) so st) p = some m → m = fbW so st (if old so st = [] then lastK (told (bar ru k) so st) else none) p := fun p m hm => by
    unfold allw at hm
    rw [if_neg hnot] at hm
    have := look_some hm
    obtain ⟨q, _, e⟩ := List.mem_map.mp this
    cases e
    rfl
  have e1 := key _ _ hn
  have no : look (ks (old so st)) (.inl a) = none := look_none (fun z => by
    rw [ks_keys] at z
    obtain ⟨q, _, e⟩ := List.mem_map.mp z
    cases e)
  unfold fbW at e1
  rw [no, Option.getD_none] at e1
  have hl : (if old so st = [] then lastK (told (bar ru k) so st) else none) = some (.inl a) := by
    by_cases q : (if old so st = [] then lastK (told (bar ru k) so st) else none) = some (.inl a)
    · exact q
    · rw [if_neg q] at e1; omega
  have ho : old so st = [] := by
    by_cases q : old so st = []
    · exact q
    · rw [if_neg q] at hl; cases hl
  rintro p ⟨m, hm, m0⟩
  have e2 := key _ _ hm
  unfold fbW at e2
  rw [hl, ho] at e2
  have : look (ks []) p = none := rfl
  rw [this, Option.getD_none] at e2
  by_cases q : (some (Sum.inl a) : Option Key) = some p
  · exact (Option.some.inj q).symm
  · rw [if_neg q] at e2; omega
theorem one_elem {α : Type} {l : List α} {x : α} (nd : l.Nodup) (h : ∀ y ∈ l, y = x) : l.length ≤ 1 := by
  match l, nd, h with
  | [], _, _ => simp
  | [_], _, _ => simp
  | a :: b :: r, nd, h =>
    exfalso
    have h1 := h a (by simp)
    have h2 := h b (by simp)
    rw [List.nodup_cons] at nd
    exact nd.1 (by rw [h1, h2]; simp)
def canB (ru : Ru) (so : So) (st : Stn) (k : Key) : Bool := decide (0 < (look (allw ru so st) k).getD 0)
theorem canB_iff {ru : Ru} {so : So} {st : Stn} {k : Key} : canB ru so st k = true ↔ Can ru so st k := by
  unfold canB Can
  rw [decide_eq_true_eq]
  constructor
  · intro h
    cases e : look (allw ru so st) k with
    | none => rw [e] at h; simp at h
    | some n => rw [e] at h; exact ⟨n, rfl, h⟩
  · rintro ⟨n, e, h⟩
    rw [e]
    exact h
theorem pls_nodup {ru : Ru} {so : So} {st : Stn} (h : (so.map (·.1)).Nodup) : (pls ru so st).Nodup := told_nodup h
theorem pls_len {ru : Ru} {so : So} {st : Stn} (h1 : st.length ≤ 3) (h2 : so.length ≤ 3) : (pls ru so st).length ≤ 6 := by
  have := told_len (ru := ru) h1 h2
  unfold pls
  rw [List.length_map]
  exact this
end U

set_option Elab.async false
set_option linter.all false
set_option maxRecDepth 100000
set_option maxHeartbeats 4000000
/-! The law's walk; sums; barred ages. -/
namespace U
open PySem PySem.Spec PyProof.Rows L2
instance decKey : ∀ (k : Key) (l : List Key), Decidable (k ∈ l)
  | _, [] => isFalse (by simp)
  | k, a :: r => if h : k = a then isTrue (by simp [h]) else
    match decKey k r with
    | .isTrue h2 => isTrue (List.mem_cons_of_mem _ h2)
    | .isFalse h2 => isFalse fun z => (List.mem_cons.mp z).elim h h2
theorem tkKey : TkR (fun (_ : Hp) v (k : Key) => v = kV k) := fun _ h => h
theorem keys_dp {K : PySem.W.Frag} {H : Hp} : ∀ l : List Key, DpAll K H (l.map kV) (l.map kD)
  | [] => .nil
  | k :: r => .cons (kD_dp k) (keys_dp r)
theorem keys_plain : ∀ l : List Key, PyData.plainAll (l.map kD) = true
  | [] => by simp [PyData.plainAll]
  | k :: r => by simp [PyData.plainAll, kD_plain, keys_plain r]
theorem keys_depth : ∀ l : List Key, PyData.depthAll (l.map kD) ≤ 0
  | [] => by simp [PyData.depthAll]
  | k :: r => by
    have := keys_depth r
    simp only [List.map_cons, PyData.depthAll, kD_depth]
    omega
theorem flat_keys (l : List Key) : (l.map kV).all flatV = true := by
  rw [List.all_map, List.all_eq_true]
  intro k _
  cases k <;> rfl
theorem flat_key (k : Key) : flatV (kV k) = true := by cases k <;> rfl
theorem eqV_key (a b : Key) : eqV (kV a) (kV b) = decide (a = b) := by
  cases a with
  | inl x =>
    cases b with
    | inl y => by_cases h : x = y <;> simp [kV, eqV, h]
    | inr y => simp [kV, eqV]
  | inr x =>
    cases b with
    | inl y => simp [kV, eqV]
    | inr y => by_cases h : x = y <;> simp [kV, eqV, h]
theorem inV_key (k : Key) (l : List Key) : inV (kV k) (l.map kV) = decide (k ∈ l) := by
  induction l with
  | nil => simp [inV]
  | cons b r ih =>
    have e : inV (kV k) (List.map kV (b :: r)) = (eqV (kV b) (kV k) || inV (kV k) (r.map kV)) := rfl
    rw [e, ih, eqV_key]
    by_cases h : k = b
    · subst h; simp
    · have h' : ¬ b = k := fun z => h z.symm
      simp [h, h']
theorem eqv_bl2 {a b : Bool} (h : a = b) : PyData.eqv (.list [.bool a, .bool a]) (.list [.bool b, .bool b]) = true := by
  subst h
  cases a <;> simp [PyData.eqv, PyData.eqvAll]
section
variable {P : Program} {w : World} {K : PySem.W.Frag} {mg : Str → Option Value} {base : Heap}
def pr_walk : Pr := fun vs H Q => ∃ (q : Dq) (c : Addr) (ru : Ru) (nu so : So), vs = [.ref q.d, .ref c, .int 6] ∧ DrAt H q ∧ CaseAt H q.d c ru nu ∧ RuOk ru ∧ SoOk nu ∧ SoOf nu so ∧
  ∀ p l us cs t H', Sm q H H' → H' p = some (.tup [.ref l, .ref t]) → H' l = some (.lst us) → H l = none → Paired (StepAt H') us cs → cs.length ≤ 6 → good ru so (fst0 ru) cs → StAt H' t (run (fst0 ru) cs) → Q (.ref p) H'
theorem sc_l_walk : FnScope ["_law_draw", "_law_case", "_law_many", "_law_found", "_law_standing", "_law_turn", "_law_some", "_law_step", "_law_place", "_law_each"] ["_law_draw", "_law_case", "_law_many"] (defScope s_l_walk) := ⟨rfl, rfl, rfl, by decide +kernel, rfl, by decide +kernel, by decide +kernel⟩
theorem ok_l_walk (T : T K mg) : Ok P w K mg base 3 (He.ga K "_law_walk") pr_walk := by
  refine Dn.ok T.l_walk sc_l_walk (fun _ _ _ _ _ _ us hl => match us, hl with | [_, _, _], _ => rfl) (fun vs H Q h => ?_) fun cdv A outer s H vs Q E hr h => ?_
  · obtain ⟨_, _, _, _, _, rfl, _⟩ := h
    rfl
  obtain ⟨q, c, ru, nu, so, rfl, DR, CA, rk, nk, of, h⟩ := h
  have sk := of.ok nk
  refine ⟨_, (pss_cons (ps_par (i := 3) (j := 4) rfl sc_l_walk.nd rfl rfl (by decide) rfl rfl (pa_cons (pe_lst pa_nil) (pa_cons (pe_cal (ok_l_first_one T) (hr.mono (by decide)) rfl T.l_first_one (pa_cons (pv 1) pa_nil)) pa_nil)) (by rfl)) (pss_cons (ps_for PassesOwn.never rfl (pi_range1 rfl T.z_range (pa_cons (pv 2) pa_nil)) (pg_name (i := 5) sc_l_walk.nd rfl (by first | exact .inl rfl | exact .inr rfl)) (pss_cons (ps_setLc (i := 6) (own := [("_law_place", 8), ("_law_many", 2), ("_law_each", 9)]) (g := gTup K 3 (gCons (gName 8) (gCons (gName 2) (gCons (gName 9) gNil)))) rfl sc_l_walk.nd rfl rfl (sw_true rfl rfl rfl (by decide +kernel)) (piL (K := K) rfl (pe_cal (ok_l_rows_at T) (hr.mono (by decide)) rfl T.l_rows_at (pa_cons (pv 1) (pa_cons (pv 4) pa_nil)))) (blkOk_by (N := ["_law_draw", "_law_case", "_law_many", "_law_found", "_law_standing", "_law_turn", "_law_some", "_law_step", "_law_place", "_law_each"]) (sc := defScope s_l_walk) (by decide +kernel)) (fun _ _ _ _ _ => pg_tup rfl (pgs_cons (pg_name (i := 8) sc_l_walk.nd rfl (by first | exact .inl rfl | exact .inr rfl)) (pgs_cons (pg_name (i := 2) sc_l_walk.nd rfl (by first | exact .inl rfl | exact .inr rfl)) (pgs_cons (pg_name (i := 9) sc_l_walk.nd rfl (by first | exact .inl rfl | exact .inr rfl)) pgs_nil)))) (fun _ _ _ _ _ => (pts_one (pt_cmpR op_gt (pv 9) pe_int (nomark _)))) (fun _ _ _ _ _ => (pv 8))) (pss_cons (ps_set (i := 7) sc_l_walk.nd rfl (by first | exact .inl rfl | exact .inr rfl) (pe_tup (pa_cons (pe_cal (ok_l_pick T) (hr.mono (by decide)) rfl T.l_pick (pa_cons (pv 0) (pa_cons (pv 6) pa_nil))) (pa_cons (pe_cmpR op_eq (pe_cal (ok_l_take T) (hr.mono (by decide)) rfl T.l_take (pa_cons (pv 0) (pa_cons pe_int pa_nil))) pe_int (nomark _)) pa_nil)))) (pss_cons (ps_expr (pe_bm PySem.F.plainAttrs_list PySem.F.slot_list_append PySem.F.type_list_append mt_append (pv 3) (pa_cons (pv 7) pa_nil))) (pss_one (ps_set (i := 4) sc_l_walk.nd rfl (by first | exact .inl rfl | exact .inr rfl) (pe_cal (ok_l_drawn_on T) (hr.mono (by decide)) rfl T.l_drawn_on (pa_cons (pv 4) (pa_cons (pe_ix (ixT (K := K) rfl) (pv 7) pe_int (fun _ _ => rfl)) (pa_cons (pe_ix (ixT (K := K) rfl) (pv 7) pe_int (fun _ _ => rfl)) pa_nil)))))))))) (pss_one (ps_ret (pe_tup (pa_cons (pv 3) (pa_cons (pv 4) pa_nil))))))), ?_⟩
  refine ⟨Nat.zero_le _, fun F hF => ?_⟩
  have s1 := (sms H).up hF (o := .lst [])
  refine ⟨_, rfl, q.d, c, ru, nu, rfl, CA.mono s1, rk, fun t0 H1 s2 ht0 => ⟨_, _, rfl, ?_⟩⟩
  have s12 := s1.trans s2
  have nF := DR.ne hF
  refine ⟨_, rfl, 6, rfl, by decide, by decide, ?_⟩
  refine for_it walk_range (fun i σ H' => ∃ v5 v6 v7 t' us cs, σ = [some (.ref q.d), some (.ref c), some (.int 6), some (.ref F), some (.ref t'), v5, v6, v7, none, none] ∧ Sm q H H' ∧ H' F = some (.lst us) ∧ Paired (StepAt H') us cs ∧ cs.length = i ∧ good ru so (fst0 ru) cs ∧ StAt H' t' (run (fst0 ru) cs))
    ⟨none, none, none, t0, [], [], rfl, DR.sm s12, s2 _ _ upd_same, .nil, rfl, trivial, ht0⟩ (fun _ _ _ _ _ => trivial) ?_ ?_
  · rintro i x σ H2 H3 hi ⟨v5, v6, v7, t', us, cs, rfl, sA, hFA, pus, hcl, gd, hSt⟩ ⟨rfl, rfl⟩
    have hi6 : i < 6 := hi
    have ok := run_ok sk (fst0_ok rk sk) gd
    have hl := stok_len rk ok
    have rl := rowsAt_len (ru := ru) hl sk.l3
    refine ⟨_, rfl, _, rfl, q.d, c, t', ru, nu, so, _, rfl, CA.sm sA, rk, nk, of, hSt, ok, fun l us4 H4 s4 hl4 p4 => ⟨l, rfl, ⟨_, SqL.of hl4⟩, fun D hD => ?_⟩⟩
    have lu4 : us4.length = (rowsAt ru so (run (fst0 ru) cs)).length := Paired.length p4
    refine lc_go rel_same (walk_list (xs := us4)) hD (sms _) (fun i => (((rowsAt ru so (run (fst0 ru) cs)).take i).filter posR).map (·.1)) (fun _ v k => v = kV k) rfl (fun H8 s8 => SqL.of (s8 _ _ hl4)) ?_ ?_
    · rintro i2 x2 H5 H6 hi2 I ⟨rfl, e2⟩
      obtain ⟨r, hr, a, rfl, har⟩ := paired_at p4 e2
      have har2 := I.rl _ _ har
      refine ⟨a, _, rfl, SqT.of har2, rfl, _, _, rfl, _, _, rfl, _, _, rfl, rfl, rfl, _, rfl, _, _, rfl, rfl, _, rfl, ?_⟩
      by_cases q0 : 0 < r.2.2
      · refine iteTe (decide_eq_true q0) ⟨_, rfl, I.step rel_same hD tkKey (by omega) (sms _) (z := r.1) ?_ rfl⟩
        rw [take_snoc hr, List.filter_append, List.map_append]
        simp [posR, q0]
      · refine iteFe (decide_eq_false q0) (I.skip rel_same hD tkKey (sms _) ?_)
        rw [take_snoc hr, List.filter_append, List.map_append]
        simp [posR, q0]
    intro us5 H5 h5 s5 p5
    rw [List.take_of_length_le (by rw [lu4]; exact Nat.le_refl _)] at p5
    have e5 := paired_eq p5
    have sB := (sA.same s4).same s5
    have hFB := (s4.trans s5) _ _ hFA
    have hne : 0 < us5.length := by
      obtain ⟨r, hr, h0⟩ := rows_pos rk sk ok
      have hm : r ∈ (rowsAt ru so (run (fst0 ru) cs)).filter posR := List.mem_filter.mpr ⟨hr, by simpa [posR] using h0⟩
      rw [e5, List.length_map, List.length_map]
      exact List.length_pos_of_mem hm
    have hl5 : us5.length < 1000 := by
      rw [e5, List.length_map, List.length_map]
      have := List.length_filter_le posR (rowsAt ru so (run (fst0 ru) cs))
      omega
    have nD := (sA.same s4).ne2 hD
    refine ⟨_, rfl, _, rfl, q, sB.d2, .inl ⟨D, us5, rfl, h5, nD.2, hne, hl5, fun v H6 s6 hv => ?_⟩⟩
    rw [e5] at hv
    obtain ⟨k, hk, rfl⟩ := List.mem_map.mp hv
    obtain ⟨r, hr, rfl⟩ := List.mem_map.mp hk
    obtain ⟨hr1, hr2⟩ := List.mem_filter.mp hr
    have can := rows_can rk sk ok hr1 (by simpa [posR] using hr2)
    refine ⟨_, rfl, q, 3, rfl, s6.d2, by decide, by decide, fun j H7 s7 j0 j1 => ⟨rfl, by show 2 ≤ sizeLine; decide, fun p hp => ?_⟩⟩
    have sC := ((sB.trans s6).trans s7).up hp (o := .tup [kV r.1, .bl (decide (V.int j = V.int 0))])
    have hFC := (sms H7).up hp (o := .tup [kV r.1, .bl (decide (V.int j = V.int 0))]) _ _ (s7.kp _ _ (s6.kp _ _ hFB nF.1 nF.2) nF.1 nF.2)
    have hpC : (upd H7 p (.tup [kV r.1, .bl (decide (V.int j = V.int 0))])) p = some (.tup [kV r.1, .bl (decide (V.int j = V.int 0))]) := upd_same
    have kC : Tk H3 (upd H7 p (.tup [kV r.1, .bl (decide (V.int j = V.int 0))])) := (((s4.trans s5).tk.trans s6.tk).trans s7.tk).trans (Tk.new hp)
    generalize hHC : upd H7 p (.tup [kV r.1, .bl (decide (V.int j = V.int 0))]) = HC at *
    have lus : us.length = cs.length := Paired.length pus
    refine ⟨_, rfl, .inl ⟨rfl, _, SqL.of hFC⟩, _, rfl, F, us, _, rfl, rfl, hFC, by rw [lus, sizeLine_eq]; omega, ?_⟩
    have kD : Tk HC (upd HC F (.lst (us ++ [.ref p]))) := Tk.at hFC (fun xs z => by cases z)
    have sD : Sm q H (upd HC F (.lst (us ++ [.ref p]))) := sC.new hF
    refine ⟨_, rfl, _, rfl, p, _, _, _, rfl, rfl, SqT.of (kD _ _ hpC), rfl, _, rfl, p, _, _, _, rfl, rfl, SqT.of (kD _ _ hpC), rfl, t', _, so, r.1, _, rfl, hSt.mono (kC.trans kD), by omega, can.pl, fun t2 H8 s8 h8 => ?_⟩
    refine ⟨_, _, _, t2, us ++ [.ref p], cs ++ [(r.1, decide (V.int j = V.int 0))], rfl, sD.same s8, s8 _ _ upd_same, ?_, by rw [List.length_append, hcl]; rfl, good_snoc gd can, ?_⟩
    · exact paired_snoc ⟨p, rfl, s8 _ _ (kD _ _ hpC)⟩ (Paired.mapP pus fun _ _ z => z.mono ((kC.trans kD).trans s8.tk))
    · rw [run_snoc]
      exact h8
  · rintro σ H2 ⟨v5, v6, v7, t', us, cs, rfl, sA, hFA, pus, hcl, gd, hSt⟩
    have hcl6 : cs.length = 6 := hcl
    refine ⟨_, rfl, _, rfl, by show 2 ≤ sizeLine; decide, fun p hp => ?_⟩
    exact h p F us cs t' _ (sA.up hp) upd_same ((sms H2).up hp _ _ hFA) hF (Paired.mapP pus fun _ _ z => z.mono (Tk.new hp)) (by omega) gd (hSt.mono (Tk.new hp))
/-! ### sums -/
def pr_sums_right (K : PySem.W.Frag) : Pr := fun vs H Q => ∃ r o t ru so st, vs = [.ref r, .ref o, .ref t] ∧ Arg K H r o t ru so st ∧ ∀ H', Same H H' → Q (.bl true) H'
theorem sc_l_sums_right : FnScope ["_law_rule", "_law_songs", "_law_standing", "_law_top", "_law_bottom", "_law_place", "_law_told", "_law_more", "_law_under"] ["_law_rule", "_law_songs", "_law_standing"] (defScope s_l_sums_right) := ⟨rfl, rfl, rfl, by decide +kernel, rfl, by decide +kernel, by decide +kernel⟩
theorem ok_l_sums_right (T : T K mg) : Ok P w K mg base 9 (He.ga K "_law_sums_right") (pr_sums_right K) := by
  refine Dn.ok T.l_sums_right sc_l_sums_right (fun _ _ _ _ _ _ us hl => match us, hl with | [_, _, _], _ => rfl) (fun vs H Q h => ?_) fun cdv A outer s H vs Q E hr h => ?_
  · obtain ⟨_, _, _, _, _, _, rfl, _⟩ := h
    rfl
  obtain ⟨r, o, t, ru, so, st, rfl, Ar, h⟩ := h
  obtain ⟨S0, S1⟩ := allw_sum Ar.ro Ar.sk Ar.ok
  have nd := allw_nodup (ru := ru) (st := st) Ar.sk.nd
  refine ⟨_, (pss_cons (ps_asg (pe_tup (pa_cons pe_int (pa_cons pe_int pa_nil))) (pg_tup rfl (pgs_cons (pg_name (i := 3) sc_l_sums_right.nd rfl (by first | exact .inl rfl | exact .inr rfl)) (pgs_cons (pg_name (i := 4) sc_l_sums_right.nd rfl (by first | exact .inl rfl | exact .inr rfl)) pgs_nil)))) (pss_cons (ps_for PassesOwn.never rfl (piL (K := K) rfl (pe_cal (ok_places T) (hr.mono (by decide)) rfl T.places (pa_cons (pv 0) (pa_cons (pv 1) (pa_cons (pv 2) pa_nil))))) (pg_name (i := 5) sc_l_sums_right.nd rfl (by first | exact .inl rfl | exact .inr rfl)) (pss_cons (ps_asg (pe_cal (ok_chance T) (hr.mono (by decide)) rfl T.chance (pa_cons (pv 0) (pa_cons (pv 1) (pa_cons (pv 2) (pa_cons (pv 5) pa_nil))))) (pg_tup rfl (pgs_cons (pg_name (i := 7) sc_l_sums_right.nd rfl (by first | exact .inl rfl | exact .inr rfl)) (pgs_cons (pg_name (i := 8) sc_l_sums_right.nd rfl (by first | exact .inl rfl | exact .inr rfl)) pgs_nil)))) (pss_cons (ps_par (i := 3) (j := 4) rfl sc_l_sums_right.nd rfl rfl (by decide) rfl rfl (pa_cons (pe_op op_add (pe_op op_mul (pv 3) (pv 8)) (pe_op op_mul (pv 7) (pv 4))) (pa_cons (pe_op op_mul (pv 4) (pv 8)) pa_nil)) (by rfl)) (pss_cons (ps_set (i := 6) sc_l_sums_right.nd rfl (by first | exact .inl rfl | exact .inr rfl) (pe_lst (pa_cons (pe_cal (ok_can_draw T) (hr.mono (by decide)) rfl T.can_draw (pa_cons (pv 0) (pa_cons (pv 1) (pa_cons (pv 2) (pa_cons (pv 5) pa_nil))))) (pa_cons (pe_cmpR op_gt (pe_cal (ok_weight T) (hr.mono (by decide)) rfl T.weight (pa_cons (pv 0) (pa_cons (pv 1) (pa_cons (pv 2) (pa_cons (pv 5) pa_nil))))) pe_int (nomark _)) pa_nil)))) (pss_one (ps_if (pt_cmpR (op_neP (K := K) rfl (by exact hr.units)) (pv 6) (pe_lst (pa_cons (pe_cmpR op_gt (pv 7) pe_int (nomark _)) (pa_cons (pe_cmpR op_gt (pv 7) pe_int (nomark _)) pa_nil))) (nomark _)) (pss_one (ps_ret pe_bl)) pss_nil)))))) (pss_one (ps_ret (pe_cmpR op_eq (pv 3) (pv 4) (nomark _)))))), ?_⟩
  refine ⟨by show 2 ≤ sizeLine; decide, fun tt htt => ⟨tt, _, rfl, SqT.of upd_same, rfl, _, _, rfl, _, _, rfl, rfl, ?_⟩⟩
  have s1 := (sms H).up htt (o := .tup [.int 0, .int 1])
  refine ⟨_, rfl, _, rfl, _, rfl, r, o, t, ru, so, st, rfl, Ar.mono s1, fun pl H1 s2 hpln hpl => ⟨pl, rfl, ⟨_, SqL.of hpl⟩, ?_⟩⟩
  have s12 := s1.trans s2
  refine for_it (walk_list (xs := (pls ru so st).map kV)) (fun i σ H' => ∃ v5 v6 v7 v8 tp bt, σ = [some (.ref r), some (.ref o), some (.ref t), some (.int tp), some (.int bt), v5, v6, v7, v8] ∧ Same H1 H' ∧ 0 < bt ∧ tp * wsum (allw ru so st) = bt * wsum ((allw ru so st).take i))
    ⟨none, none, none, none, 0, 1, rfl, sms _, by decide, by simp [wsum]⟩ (fun i σ H' _ ⟨_, _, _, _, _, _, _, s3, _⟩ => SqL.of (s3 _ _ hpl)) ?_ ?_
  · rintro i x σ H2 H' hi ⟨v5, v6, v7, v8, tp, bt, rfl, s3, b0, eq⟩ ⟨rfl, e2⟩
    rw [List.getElem?_map] at e2
    obtain ⟨k, hk, rfl⟩ := Option.map_eq_some_iff.mp e2
    have hk2 : ((allw ru so st).map (·.1))[i]? = some k := by rw [allw_keys]; exact hk
    rw [List.getElem?_map] at hk2
    obtain ⟨⟨k', n⟩, hp, ek⟩ := Option.map_eq_some_iff.mp hk2
    have ek : k' = k := ek
    subst ek
    have hm := List.mem_of_getElem? hp
    have lk : look (allw ru so st) k' = some n := look_mem nd hm
    have hb := allw_b Ar.ro Ar.sk hm
    have hb : 0 ≤ n ∧ n ≤ 81 := hb
    obtain ⟨f1, f2, f3, f4, f5, f6⟩ := frac_spec hb.1 S0
    have sA := s12.trans s3
    refine ⟨_, rfl, _, rfl, _, rfl, _, rfl, r, o, t, ru, so, st, k', n, rfl, Ar.mono sA, lk, fun p H3 s4 hp3 => ?_⟩
    have hp3' : H3 p = some (.tup [.int (frac n (wsum (allw ru so st))).1, .int (frac n (wsum (allw ru so st))).2]) := hp3
    refine ⟨p, _, rfl, SqT.of hp3', rfl, _, _, rfl, _, _, rfl, rfl, ?_⟩
    generalize hm1 : (frac n (wsum (allw ru so st))).1 = m at *
    generalize hu1 : (frac n (wsum (allw ru so st))).2 = u at *
    have sB := sA.trans s4
    refine ⟨_, rfl, _, rfl, _, _, rfl, rfl, .inr ⟨by omega, by omega⟩, _, rfl, _, rfl, _, _, rfl, rfl, .inl ⟨by omega, by omega⟩, _, _, rfl, rfl, _, rfl, _, rfl, _, _, rfl, rfl, .inr ⟨by omega, by omega⟩, _, _, rfl, ?_⟩
    refine ⟨_, rfl, _, rfl, _, rfl, _, rfl, r, o, t, ru, so, st, k', n, rfl, Ar.mono sB, lk, fun H4 s5 => ?_⟩
    refine ⟨_, rfl, _, rfl, _, rfl, _, rfl, r, o, t, ru, so, st, k', n, rfl, Ar.mono (sB.trans s5), lk, fun H5 s6 => ⟨_, _, rfl, rfl, by show 2 ≤ sizeLine; decide, fun e1 he1 => ?_⟩⟩
    refine ⟨_, rfl, _, rfl, _, _, rfl, rfl, _, rfl, _, _, rfl, rfl, by show 2 ≤ sizeLine; decide, fun e3 he3 => ?_⟩
    have s7 := (sms H5).up he1 (o := .lst [.bl (decide (0 < n)), .bl (decide (0 < n))])
    have h71 : (upd (upd H5 e1 (.lst [.bl (decide (0 < n)), .bl (decide (0 < n))])) e3 (.lst [.bl (decide (0 < m)), .bl (decide (0 < m))])) e1 = some (.lst [.bl (decide (0 < n)), .bl (decide (0 < n))]) := (sms (upd H5 e1 (.lst [.bl (decide (0 < n)), .bl (decide (0 < n))]))).up he3 _ _ upd_same
    refine ⟨.list [.bool (decide (0 < n)), .bool (decide (0 < n))], .list [.bool (decide (0 < m)), .bool (decide (0 < m))], .lst (SqL.of h71) (.cons (.bl _) (.cons (.bl _) .nil)), .lst (SqL.of upd_same) (.cons (.bl _) (.cons (.bl _) .nil)), by simp [PyData.plain, PyData.plainAll], by simp [PyData.plain, PyData.plainAll], by simp [PyData.depth, PyData.depthAll], _, rfl, iteFe ?_ ?_⟩
    · have : decide (0 < n) = decide (0 < m) := by
        by_cases q : 0 < n
        · rw [decide_eq_true q, decide_eq_true (f6.mpr q)]
        · rw [decide_eq_false q, decide_eq_false (fun z => q (f6.mp z))]
      rw [eqv_bl2 this]
      rfl
    · refine ⟨_, _, _, _, tp * u + m * bt, bt * u, rfl, (((s3.trans s4).trans (s5.trans s6)).up he1).up he3, Int.mul_pos b0 f3, ?_⟩
      rw [wsum_take hp]
      exact sum_step eq f5
  · rintro σ H2 ⟨v5, v6, v7, v8, tp, bt, rfl, s3, b0, eq⟩
    have el : (allw ru so st).take ((pls ru so st).map kV).length = allw ru so st := by
      have := congrArg List.length (allw_keys ru so st)
      rw [List.length_map] at this
      rw [List.length_map, ← this, List.take_length]
    rw [el] at eq
    have e := sum_end S0 eq
    refine ⟨_, rfl, _, rfl, rfl, ?_⟩
    show Q (.bl (decide (V.int tp = V.int bt))) H2
    rw [decide_eq_true (congrArg V.int e)]
    exact h H2 (s12.trans s3)
/-! ### barred ages -/
def pr_bars_right (K : PySem.W.Frag) : Pr := fun vs H Q => ∃ r o t ru so st, vs = [.ref r, .ref o, .ref t] ∧ Arg K H r o t ru so st ∧ ∀ H', Same H H' → Q (.bl true) H'
def isInl : Key → Bool := fun k => k.isLeft
def leK (i : Nat) : Key → Bool
  | .inl a => decide (a ≤ i)
  | .inr _ => false
theorem sc_l_bars_right : FnScope ["_law_rule", "_law_songs", "_law_standing", "_law_last", "_law_bare", "_law_ages", "_law_taken", "_law_place", "_law_age"] ["_law_rule", "_law_songs", "_law_standing"] (defScope s_l_bars_right) := ⟨rfl, rfl, rfl, by decide +kernel, rfl, by decide +kernel, by decide +kernel⟩
theorem ok_l_bars_right (T : T K mg) : Ok P w K mg base 9 (He.ga K "_law_bars_right") (pr_bars_right K) := by
  refine Dn.ok T.l_bars_right sc_l_bars_right (fun _ _ _ _ _ _ us hl => match us, hl with | [_, _, _], _ => rfl) (fun vs H Q h => ?_) fun cdv A outer s H vs Q E hr h => ?_
  · obtain ⟨_, _, _, _, _, _, rfl, _⟩ := h
    rfl
  obtain ⟨r, o, t, ru, so, st, rfl, Ar, h⟩ := h
  obtain ⟨fdB, FB, bB⟩ := ok_Rule_barring (P := P) (w := w) (base := base) T
  obtain ⟨rdx, rwa, rsa, hr1, _, _⟩ := id Ar.R
  have w4 := Ar.ro.w4
  have hl := Ar.len
  have l3 := Ar.sk.l3
  refine ⟨_, (pss_cons (ps_for PassesOwn.never rfl (pi_range1 rfl T.z_range (pa_cons (pe_prp T.Rule_cap.pr T.kRule (ok_Rule_cap T) (hr.mono (by decide)) (pv 0) rfl) pa_nil)) (pg_name (i := 3) sc_l_bars_right.nd rfl (by first | exact .inl rfl | exact .inr rfl)) (pss_cons (ps_set (i := 4) sc_l_bars_right.nd rfl (by first | exact .inl rfl | exact .inr rfl) (pe_meth (pv 0) T.kRule T.mtBar FB (hr.mono (by decide)) bB .nil pass0 (pa_cons (pv 3) pa_nil))) (pss_cons (ps_setLc (i := 5) (own := [("_law_place", 7)]) (g := gName 7) rfl sc_l_bars_right.nd rfl rfl (sw_true rfl rfl rfl (by decide +kernel)) (piL (K := K) rfl (pe_cal (ok_places T) (hr.mono (by decide)) rfl T.places (pa_cons (pv 4) (pa_cons (pv 1) (pa_cons (pv 2) pa_nil))))) (blkOk_by (N := ["_law_rule", "_law_songs", "_law_standing", "_law_last", "_law_bare", "_law_ages", "_law_taken", "_law_place", "_law_age"]) (sc := defScope s_l_bars_right) (by decide +kernel)) (fun _ _ _ _ _ => pg_name (i := 7) sc_l_bars_right.nd rfl (by first | exact .inl rfl | exact .inr rfl)) (fun _ _ _ _ _ => (pts_one (pt_not (pt_val (pe_callB (isiK (K := K) rfl) rfl T.z_isinstance b_isinstance (pa_cons (pv 7) (pa_cons (pe_bltn (v := .ty "str") rfl T.z_str b_str rfl) pa_nil))))))) (fun _ _ _ _ _ => (pv 7))) (pss_cons (ps_set (i := 6) sc_l_bars_right.nd rfl (by first | exact .inl rfl | exact .inr rfl) (pe_lc (own := [("_law_place", 7)]) (g := gName 7) rfl sc_l_bars_right.nd  (piL (K := K) rfl (pe_cal (ok_places T) (hr.mono (by decide)) rfl T.places (pa_cons (pv 4) (pa_cons (pv 1) (pa_cons (pv 2) pa_nil))))) (blkOk_by (N := ["_law_rule", "_law_songs", "_law_standing", "_law_last", "_law_bare", "_law_ages", "_law_taken", "_law_place", "_law_age"]) (sc := defScope s_l_bars_right) (by decide +kernel)) (fun _ _ _ _ _ => pg_name (i := 7) sc_l_bars_right.nd rfl (by first | exact .inl rfl | exact .inr rfl)) (fun _ _ _ _ _ => (pts_one (pt_val (pe_cal (ok_can_draw T) (hr.mono (by decide)) rfl T.can_draw (pa_cons (pv 4) (pa_cons (pv 1) (pa_cons (pv 2) (pa_cons (pv 7) pa_nil)))))))) (fun _ _ _ _ _ => (pv 7)))) (pss_one (ps_if (PW.pt (pw_and (pt_cmpR (op_neP (K := K) rfl (by exact hr.units)) (pe_lc (own := [("_law_age", 8)]) (g := gName 8) rfl sc_l_bars_right.nd  (piL (K := K) rfl (pv 5)) (blkOk_by (N := ["_law_rule", "_law_songs", "_law_standing", "_law_last", "_law_bare", "_law_ages", "_law_taken", "_law_place", "_law_age"]) (sc := defScope s_l_bars_right) (by decide +kernel)) (fun _ _ _ _ _ => pg_name (i := 8) sc_l_bars_right.nd rfl (by first | exact .inl rfl | exact .inr rfl)) (fun _ _ _ _ _ => (pts_one (PW.pt (pw_and (pt_cmpR op_le (pv 8) (pv 3) (nomark _)) (pw_and1 (pt_cmpR (inQ (K := K) rfl) (pv 8) (pv 6) (by rfl))))))) (fun _ _ _ _ _ => (pv 8))) (pe_lst pa_nil) (nomark _)) (pw_and1 (pt_cmpR op_gt (pe_callB (lenK (K := K) rfl) rfl T.z_len b_len (pa_cons (pv 6) pa_nil)) pe_int (nomark _))))) (pss_one (ps_ret pe_bl)) pss_nil)))))) (pss_one (ps_ret pe_bl))), ?_⟩
  refine ⟨_, rfl, r, rdx, _, rfl, hr1, r, ru, rfl, Ar.R, (ru.w.length : Int), rfl, by omega, by omega, ?_⟩
  rw [Int.toNat_natCast]
  refine for_it walk_range (fun i σ H' => ∃ v3 v4 v5 v6, σ = [some (.ref r), some (.ref o), some (.ref t), v3, v4, v5, v6, none, none] ∧ Same H H') ⟨none, none, none, none, rfl, sms _⟩ (fun _ _ _ _ _ => trivial) ?_ ?_
  · rintro i x σ H1 H2 hi ⟨v3, v4, v5, v6, rfl, s1⟩ ⟨rfl, ex⟩
    have ex : x = V.int ((i : Nat) : Int) := by rw [ex]; exact congrArg V.int (Int.zero_add _)
    subst ex
    refine ⟨_, rfl, r, rdx, _, rfl, s1 _ _ hr1, rfl, _, rfl, r, ru, i, rfl, Ar.R.mono s1, Ar.ro, hi, fun rb H3 s2 Rb => ?_⟩
    have s12 := s1.trans s2
    have okb := bar_ok Ar.ro hi
    have Ab : Arg K H3 rb o t (bar ru i) so st := ⟨Rb, Ar.S.mono s12, Ar.St.mono s12.tk, okb, Ar.sk, Ar.ok.bar hi⟩
    have pl6 := pls_len (ru := bar ru i) hl l3
    refine ⟨_, rfl, _, rfl, _, rfl, rb, o, t, bar ru i, so, st, rfl, Ab, fun l1 H4 s3 hl1n hl1 => ⟨l1, rfl, ⟨_, SqL.of hl1⟩, fun D1 hD1 => ?_⟩⟩
    refine lc_go rel_same (walk_list (xs := (pls (bar ru i) so st).map kV)) hD1 (sms _) (fun j => ((pls (bar ru i) so st).take j).filter isInl) (fun _ v k => v = kV k) rfl (fun H8 s8 => SqL.of (s8 _ _ hl1)) ?_ ?_
    · rintro j x2 H5 H6 hj I ⟨rfl, e2⟩
      rw [List.getElem?_map] at e2
      obtain ⟨k, hk, rfl⟩ := Option.map_eq_some_iff.mp e2
      rw [List.length_map] at hj
      cases k with
      | inl a =>
        refine ⟨rfl, _, rfl, _, _, _, _, false, rfl, .ty "str", .base (.int a), kit_ty (by decide +kernel : kitB "int" "str" = some false), _, rfl, iteTe rfl ⟨_, rfl, I.step rel_same hD1 tkKey (by omega) (sms _) (z := .inl a) ?_ rfl⟩⟩
        rw [take_snoc hk, List.filter_append]
        rfl
      | inr z =>
        refine ⟨rfl, _, rfl, _, _, _, _, true, rfl, .ty "str", .base (.str z), kit_ty (by decide +kernel : kitB "str" "str" = some true), _, rfl, iteFe rfl (I.skip rel_same hD1 tkKey (sms _) ?_)⟩
        rw [take_snoc hk, List.filter_append]
        simp [isInl]
    intro us1 H5 h5 s4 p5
    rw [List.take_of_length_le (by simp)] at p5
    have e5 := paired_eq p5
    rw [e5] at h5
    have s35 := s3.trans s4
    refine ⟨_, rfl, _, rfl, _, rfl, rb, o, t, bar ru i, so, st, rfl, Ab.mono s35, fun l2 H6 s6 hl2n hl2 => ⟨l2, rfl, ⟨_, SqL.of hl2⟩, fun D2 hD2 => ?_⟩⟩
    refine lc_go rel_same (walk_list (xs := (pls (bar ru i) so st).map kV)) hD2 (sms _) (fun j => ((pls (bar ru i) so st).take j).filter (canB (bar ru i) so st)) (fun _ v k => v = kV k) rfl (fun H8 s8 => SqL.of (s8 _ _ hl2)) ?_ ?_
    · rintro j x2 H7 H8 hj I ⟨rfl, e2⟩
      rw [List.getElem?_map] at e2
      obtain ⟨k, hk, rfl⟩ := Option.map_eq_some_iff.mp e2
      rw [List.length_map] at hj
      obtain ⟨n, en⟩ := look_pls (List.mem_of_getElem? hk)
      have ecb : canB (bar ru i) so st k = decide (0 < n) := by unfold canB; rw [en]; rfl
      refine ⟨rfl, _, rfl, _, rfl, _, rfl, _, rfl, rb, o, t, bar ru i, so, st, k, n, rfl, Ab.mono (s35.trans (s6.trans I.rl)), en, fun H9 s9 => ⟨_, rfl, ?_⟩⟩
      by_cases q : 0 < n
      · refine iteTe (decide_eq_true q) ⟨_, rfl, I.step rel_same hD2 tkKey (by omega) s9 (z := k) ?_ rfl⟩
        rw [take_snoc hk, List.filter_append]
        simp [ecb, q]
      · refine iteFe (decide_eq_false q) (I.skip rel_same hD2 tkKey s9 ?_)
        rw [take_snoc hk, List.filter_append]
        simp [ecb, q]
    intro us2 H7 h7 s7 p7
    rw [List.take_of_length_le (by simp)] at p7
    have e7 := paired_eq p7
    rw [e7] at h7
    have s67 := s6.trans s7
    have h57 := s67 _ _ h5
    -- the ages that are barred and taken
    refine ⟨_, rfl, D1, rfl, ⟨_, SqL.of h57⟩, fun D3 hD3 => ?_⟩
    refine lc_go rel_same (walk_list (xs := ((pls (bar ru i) so st).filter isInl).map kV)) hD3 (sms _) (fun j => (((pls (bar ru i) so st).filter isInl).take j).filter fun k => leK i k && decide (k ∈ (pls (bar ru i) so st).filter (canB (bar ru i) so st))) (fun _ v k => v = kV k) rfl (fun H8 s8 => SqL.of (s8 _ _ h57)) ?_ ?_
    · rintro j x2 H8 H9 hj I ⟨rfl, e2⟩
      rw [List.getElem?_map] at e2
      obtain ⟨k, hk, rfl⟩ := Option.map_eq_some_iff.mp e2
      have hj3 : j < 1000 := by
        rw [List.length_map] at hj
        have := List.length_filter_le isInl (pls (bar ru i) so st)
        omega
      have hki : isInl k = true := (List.mem_filter.mp (List.mem_of_getElem? hk)).2
      cases k with
      | inr z => cases hki
      | inl a =>
        refine ⟨rfl, _, rfl, _, rfl, _, _, rfl, rfl, _, rfl, ?_⟩
        by_cases q1 : a ≤ i
        · refine iteTe (decide_eq_true q1) ⟨_, rfl, _, rfl, D2, _, rfl, .inl (SqL.of (I.rl _ _ h7)), rfl, flat_keys _, _, rfl, ?_⟩
          have einv := inV_key (.inl a) ((pls (bar ru i) so st).filter (canB (bar ru i) so st))
          by_cases q2 : (Sum.inl a : Key) ∈ (pls (bar ru i) so st).filter (canB (bar ru i) so st)
          · refine iteTe (einv.trans (decide_eq_true q2)) ⟨_, rfl, I.step rel_same hD3 tkKey hj3 (sms _) (z := .inl a) ?_ rfl⟩
            rw [take_snoc hk, List.filter_append]
            congr 1
            exact List.filter_cons_of_pos (by show (decide (a ≤ (i : Int)) && decide _) = true; rw [decide_eq_true q1, decide_eq_true q2]; rfl)
          · refine iteFe (einv.trans (decide_eq_false q2)) (I.skip rel_same hD3 tkKey (sms _) ?_)
            rw [take_snoc hk, List.filter_append, List.filter_cons_of_neg (by rw [decide_eq_false q2]; simp)]
            simp
        · refine iteFe (decide_eq_false q1) (iteF (I.skip rel_same hD3 tkKey (sms _) ?_))
          rw [take_snoc hk, List.filter_append, List.filter_cons_of_neg (by show ¬ (decide (a ≤ (i : Int)) && decide _) = true; rw [decide_eq_false q1]; simp)]
          simp
    intro us3 H8 h8 s8 p8
    rw [List.take_of_length_le (by simp)] at p8
    have e8 := paired_eq p8
    refine ⟨Nat.zero_le _, fun e he => ?_⟩
    have s9 := (sms H8).up he (o := .lst [])
    rw [e8] at h8
    refine ⟨_, _, .lst (SqL.of (s9 _ _ h8)) (keys_dp _), .lst (SqL.of upd_same) .nil, plain_list (keys_plain _), nil_plain, Nat.le_trans (depth_list (keys_depth _)) (by decide), _, rfl, ?_⟩
    have send := ((s12.trans s35).trans s67).trans (s8.trans s9)
    generalize hbad : (((pls (bar ru i) so st).filter isInl).filter fun k => leK i k && decide (k ∈ (pls (bar ru i) so st).filter (canB (bar ru i) so st))) = bad at *
    cases bad with
    | nil => exact iteFe (by rw [eqv_nil]; rfl) (iteF ⟨_, _, _, _, rfl, send⟩)
    | cons k0 bad' =>
      refine iteTe (by rw [eqv_nil]; rfl) ⟨_, rfl, _, _, rfl, .inl ⟨_, SqL.of ((s8.trans s9) _ _ h7), rfl⟩, _, _, rfl, rfl, _, rfl, ?_⟩
      have hone : ((pls (bar ru i) so st).filter (canB (bar ru i) so st)).length ≤ 1 := by
        have hk0 : k0 ∈ ((pls (bar ru i) so st).filter isInl).filter fun k => leK i k && decide (k ∈ (pls (bar ru i) so st).filter (canB (bar ru i) so st)) := by rw [hbad]; simp
        obtain ⟨_, hc⟩ := List.mem_filter.mp hk0
        cases k0 with
        | inr z => simp [leK] at hc
        | inl a =>
          have hc : (decide (a ≤ (i : Int)) && decide _) = true := hc
          rw [Bool.and_eq_true, decide_eq_true_eq, decide_eq_true_eq] at hc
          have can := canB_iff.mp (List.mem_filter.mp hc.2).2
          refine one_elem (x := .inl a) (List.Sublist.nodup List.filter_sublist (pls_nodup Ar.sk.nd)) fun y hy => ?_
          exact bars_one Ar.sk hc.1 can y (canB_iff.mp (List.mem_filter.mp hy).2)
      refine iteFe (decide_eq_false ?_) ⟨_, _, _, _, rfl, send⟩
      rw [List.length_map]
      omega
  · rintro σ H1 ⟨v3, v4, v5, v6, rfl, s1⟩
    exact h H1 s1
end
end U

set_option Elab.async false
set_option linter.all false
set_option maxRecDepth 100000
set_option maxHeartbeats 4000000
/-! list(zip(xs, ys)) of two lists of texts. -/
namespace U
open PySem PySem.Spec PyProof.Rows L2 LiI
theorem zip_no_len : typeLookup (.type "zip") "__len__" = pure none := by rw [typeLookup_type, builtinLookup_eq_fast]; kernel_rfl
theorem zip_no_hint : typeLookup (.type "zip") "__length_hint__" = pure none := by rw [typeLookup_type, builtinLookup_eq_fast]; kernel_rfl
/-- a zip that gave out i pairs, S a list apart from it -/
def Zst (h : Heap) (z TI TO i1 i2 l1 l2 S : Addr) (xs ys : Array Value) (i : Nat) : Prop :=
  IsPair h TI (.ref i1) (.ref i2) ∧ h.IsListIter i1 l1 i ∧ h.IsListIter i2 l2 i ∧ h.IsList l1 xs ∧ h.IsList l2 ys ∧
    ((IsZip h z TI TO .none ∧ ∃ a b, IsPair h TO a b) ∨ ∃ T f oT, IsZipHeld h z TI TO T f ∧ h.get? T = some oT ∧ T ≠ z ∧ T ≠ i1 ∧ T ≠ i2 ∧ T ≠ S)
theorem Zst.keep {h h' : Heap} {z TI TO i1 i2 l1 l2 S : Addr} {xs ys : Array Value} {i : Nat} (st : Zst h z TI TO i1 i2 l1 l2 S xs ys i) (nS : z ≠ S ∧ TI ≠ S ∧ TO ≠ S ∧ i1 ≠ S ∧ i2 ≠ S ∧ l1 ≠ S ∧ l2 ≠ S) (k : ∀ b o, b ≠ S → h.get? b = some o → h'.get? b = some o) : Zst h' z TI TO i1 i2 l1 l2 S xs ys i := by
  obtain ⟨hTI, h1, h2, hl1, hl2, hz⟩ := st
  obtain ⟨n1, n2, n3, n4, n5, n6, n7⟩ := nS
  refine ⟨k _ _ n2 hTI, h1.at fun o e => k _ o n4 e, h2.at fun o e => k _ o n5 e, hl1.at fun o e => k _ o n6 e, hl2.at fun o e => k _ o n7 e, ?_⟩
  rcases hz with ⟨hz, a, b, hTO⟩ | ⟨T, f, oT, hz, hT, r1, r2, r3, r4⟩
  · exact .inl ⟨k _ _ n1 hz, a, b, k _ _ n3 hTO⟩
  · exact .inr ⟨T, f, oT, k _ _ n1 hz, k _ _ r4 hT, r1, r2, r3, r4⟩
section
variable {prog : Program} {w : World} {A : Around} {E : Value → Shared → Prop} {s : Shared} {z TI TO i1 i2 l1 l2 S : Addr} {xs ys : Array Value} {i : Nat}
theorem zst_item {x y : Value} {Q : Option Value → Shared → Prop} (D : ZipApart z TI TO i1 i2 l1 l2) (st : Zst s.heap z TI TO i1 i2 l1 l2 S xs ys i) (hS : S < s.heap.objs.size) (hx : xs[i]? = some x) (hy : ys[i]? = some y)
    (hQ : ∀ h', Zst h' z TI TO i1 i2 l1 l2 S xs ys (i + 1) → IsPair h' s.heap.objs.size x y → (∀ c o, c ≠ z → c ≠ TO → c ≠ i1 → c ≠ i2 → s.heap.get? c = some o → h'.get? c = some o) → Q (some (.ref s.heap.objs.size)) { s with heap := h' }) :
    wpAny (model prog w) A (pyNext (.ref z)) Q E s := by
  obtain ⟨hTI, h1, h2, hl1, hl2, hz⟩ := st
  have lt : ∀ {c o}, s.heap.get? c = some o → s.heap.objs.size ≠ c := fun e => Nat.ne_of_gt (Heap.lt_size e)
  have n1 : s.heap.objs.size ≠ i1 := let ⟨_, e, _⟩ := h1; lt e
  have n2 : s.heap.objs.size ≠ i2 := let ⟨_, e, _⟩ := h2; lt e
  rcases hz with ⟨hz, a, b, hTO⟩ | ⟨T, f, oT, hz, hT, r1, r2, r3, r4⟩
  · refine wpAny_pyNext_zip_item D hz hTI hTO h1 h2 hl1 hl2 hx hy fun h' a1 a2 a3 a4 a5 a6 hk => hQ h' ?_ a5 hk
    exact ⟨hk _ _ D.TIz D.TITO D.TIi1 D.TIi2 hTI, a3, a4, hl1.at fun o e => hk _ o D.l1z D.l1TO D.l1i1 D.l1i2 e, hl2.at fun o e => hk _ o D.l2z D.l2TO D.l2i1 D.l2i2 e, .inr ⟨s.heap.objs.size, false, _, a1, a5, lt hz, n1, n2, Nat.ne_of_gt hS⟩⟩
  · refine wpAny_pyNext_zip_item_held D hz hT hTI h1 h2 hl1 hl2 hx hy fun h' a1 a3 a4 a5 a6 hk => hQ h' ?_ a5 fun c o e1 _ e3 e4 e => hk c o e1 e3 e4 e
    exact ⟨hk _ _ D.TIz D.TIi1 D.TIi2 hTI, a3, a4, hl1.at fun o e => hk _ o D.l1z D.l1i1 D.l1i2 e, hl2.at fun o e => hk _ o D.l2z D.l2i1 D.l2i2 e, .inr ⟨T, true, oT, a1, hk _ _ r1 r2 r3 hT, r1, r2, r3, r4⟩⟩
theorem zst_done {Q : Option Value → Shared → Prop} (hh : A.handled = none) (D : ZipApart z TI TO i1 i2 l1 l2) (st : Zst s.heap z TI TO i1 i2 l1 l2 S xs ys i) (hx : xs[i]? = none)
    (hQ : ∀ h', (∀ c o, c ≠ z → c ≠ TO → c ≠ i1 → c ≠ i2 → s.heap.get? c = some o → h'.get? c = some o) → Q none { s with heap := h' }) : wpAny (model prog w) A (pyNext (.ref z)) Q E s := by
  obtain ⟨hTI, h1, h2, hl1, hl2, hz⟩ := st
  rcases hz with ⟨hz, a, b, hTO⟩ | ⟨T, f, oT, hz, hT, r1, r2, r3, r4⟩
  · exact wpAny_pyNext_zip_end hh D hz hTI hTO h1 h2 hl1 hl2 (.inl hx) fun h' hk => hQ h' fun c o e1 e2 e3 e4 e => hk c o e1 e2 e3 e4 e
  · exact wpAny_pyNext_zip_end_held hh D hz hT hTI h1 h2 hl1 hl2 (.inl hx) fun h' hk => hQ h' fun c o e1 _ e3 e4 e => hk c o e1 e3 e4 e
theorem Zst.zip {h : Heap} (st : Zst h z TI TO i1 i2 l1 l2 S xs ys i) : ∃ f0 f1, h.get? z = some { cls := .type "zip", dict := none, data := .fields #[f0, .bool f1, .bool false, .ref TI, .ref TO], slots := #[] } := by
  obtain ⟨_, _, _, _, _, hz⟩ := st
  rcases hz with ⟨hz, _⟩ | ⟨T, f, oT, hz, _⟩
  · exact ⟨_, _, hz⟩
  · exact ⟨_, _, hz⟩
end
section
variable {prog : Program} {w : World} {K : Type} [DecidableEq K] {knd : KeyKind prog w K} {A : Around} {E : Value → Shared → Prop} {s : Shared} {z TI TO i1 i2 l1 l2 S : Addr} {xs ys : Array Value} {kvs : List (K × Value)}
/-- what list.extend does with it -/
theorem zst_loop (hh : A.handled = none) (D : ZipApart z TI TO i1 i2 l1 l2) (nS : z ≠ S ∧ TI ≠ S ∧ TO ≠ S ∧ i1 ≠ S ∧ i2 ≠ S ∧ l1 ≠ S ∧ l2 ≠ S) (low : z < S ∧ TO < S ∧ i1 < S ∧ i2 < S) (hn : kvs.length ≤ sizeLine) (hxs : xs.size = kvs.length)
    (hp : ∀ (j : Nat) k x, kvs[j]? = some (k, x) → ∃ key, xs[j]? = some key ∧ ys[j]? = some x ∧ knd.is k key = true) (res : Value) {h₁ : Heap}
    (hR : ∀ h' acc c as, (∀ b o, b ≠ S → b ≠ z → b ≠ TO → b ≠ i1 → b ≠ i2 → h₁.get? b = some o → h'.get? b = some o) → h'.get? S = some { cls := .type "list", dict := none, data := .seq acc c, slots := #[] } → as.length = kvs.length → PySem.W.KdxG knd kvs S h' as →
      acc.toList = as.map Value.ref → R (.ok (.ret res)) { s with heap := h' }) :
    ∀ (k i : Nat) (h : Heap) (c : Nat) (acc : Array Value) (as : List Addr), kvs.length - i = k → i ≤ kvs.length → Zst h z TI TO i1 i2 l1 l2 S xs ys i → (∀ b o, b ≠ S → b ≠ z → b ≠ TO → b ≠ i1 → b ≠ i2 → h₁.get? b = some o → h.get? b = some o) →
      h.get? S = some { cls := .type "list", dict := none, data := .seq acc c, slots := #[] } → acc.toList = as.map Value.ref → as.length = i → PySem.W.KdxG knd kvs S h as →
      codeAny (model prog w) A (.builtin "list.extend.loop" ⟨[.ref S, .ref z, res], []⟩) R { s with heap := h } := by
  intro k
  induction k with
  | zero =>
    intro i h c acc as hk hi hst hkeep hS hacc hal hG
    refine codeAny_builtin PySem.F.entry_extend_loop ?_
    rw [Around.under_plainId PySem.F.plain_extend_loop _]
    show wpAny _ A.in1 (pyNext (.ref z) >>= _) _ _ _
    have he : xs[i]? = none := Array.getElem?_eq_none (by omega)
    refine wpAny_bind (zst_done (s := { s with heap := h }) (A := A.in1) hh D hst he fun h' kp => ?_)
    refine wpAny_pure (hR h' acc c as (fun b o e0 e1 e2 e3 e4 e => kp b o e1 e2 e3 e4 (hkeep b o e0 e1 e2 e3 e4 e)) (kp S _ nS.1.symm nS.2.2.1.symm nS.2.2.2.1.symm nS.2.2.2.2.1.symm hS) (by omega) ⟨hG.rise, hG.above, fun j a hj => ?_⟩ hacc)
    obtain ⟨key, kk, x, e1, e2, e3⟩ := hG.pairs j a hj
    have hab := hG.above a (List.mem_of_getElem? hj)
    exact ⟨key, kk, x, e1, e2, kp a _ (Nat.ne_of_gt (Nat.lt_trans low.1 hab)) (Nat.ne_of_gt (Nat.lt_trans low.2.1 hab)) (Nat.ne_of_gt (Nat.lt_trans low.2.2.1 hab)) (Nat.ne_of_gt (Nat.lt_trans low.2.2.2 hab)) e3⟩
  | succ k ih =>
    intro i h c acc as hk hi hst hkeep hS hacc hal hG
    have hlt : i < kvs.length := by omega
    obtain ⟨⟨kk, x⟩, hx⟩ : ∃ p, kvs[i]? = some p := ⟨kvs[i], List.getElem?_eq_getElem hlt⟩
    obtain ⟨key, hkx, hky, hkey⟩ := hp i kk x hx
    have hsz : acc.size = i := by rw [← Array.length_toList, hacc, List.length_map, hal]
    have hSl : S < h.objs.size := Heap.lt_size hS
    refine codeAny_builtin PySem.F.entry_extend_loop ?_
    rw [Around.under_plainId PySem.F.plain_extend_loop _]
    show wpAny _ A.in1 (pyNext (.ref z) >>= _) _ _ _
    refine wpAny_bind (zst_item (s := { s with heap := h }) (A := A.in1) D hst hSl hkx hky fun h' hst' ht hkp => ?_)
    dsimp only at ht hkp ⊢
    have hS' := hkp S _ nS.1.symm nS.2.2.1.symm nS.2.2.2.1.symm nS.2.2.2.2.1.symm hS
    have up : ∀ b o, b ≠ S → h'.get? b = some o → (h'.update S (Obj.mapSeq (·.push (Value.ref h.objs.size)))).get? b = some o := fun b o hb e => (Heap.get?_update_other _ _ (Ne.symm hb)).trans e
    show wpAny _ A.in1 (updateSeq S (·.push (Value.ref h.objs.size)) >>= _) _ _ _
    refine wpAny_bind ?_
    refine wpAny_updateSeq hS' rfl (wpAny_pure ⟨plainId_quiet PySem.F.plain_extend_loop _, ih (i + 1) _ _ (acc.push (Value.ref h.objs.size)) (as ++ [h.objs.size]) (by omega) hlt (hst'.keep nS up)
      (fun b o e0 e1 e2 e3 e4 e => up b o e0 (hkp b o e1 e2 e3 e4 (hkeep b o e0 e1 e2 e3 e4 e))) (Heap.get?_update_self _ hS' rfl) (by rw [Array.toList_push, hacc, List.map_append]; rfl) (by rw [List.length_append, hal]; rfl) ⟨?_, ?_, ?_⟩⟩) (by rw [hsz]; omega) (by show (acc.push (Value.ref h.objs.size)).size ≤ sizeLine + 1; rw [Array.size_push, hsz]; omega)
    · refine List.pairwise_append.mpr ⟨hG.rise, List.pairwise_singleton _ _, fun a ha b hb => ?_⟩
      rw [List.mem_singleton.mp hb]
      exact hG.there ha
    · intro a ha
      rcases List.mem_append.mp ha with ha | ha
      · exact hG.above a ha
      · rw [List.mem_singleton.mp ha]; exact hSl
    · intro j b hj
      rcases Nat.lt_trichotomy j as.length with h1 | h1 | h1
      · rw [List.getElem?_append_left h1] at hj
        obtain ⟨key', k', x', e1, e2, e3⟩ := hG.pairs j b hj
        have hb := hG.above b (List.mem_of_getElem? hj)
        exact ⟨key', k', x', e1, e2, up b _ (Nat.ne_of_gt hb) (hkp b _ (Nat.ne_of_gt (Nat.lt_trans low.1 hb)) (Nat.ne_of_gt (Nat.lt_trans low.2.1 hb)) (Nat.ne_of_gt (Nat.lt_trans low.2.2.1 hb)) (Nat.ne_of_gt (Nat.lt_trans low.2.2.2 hb)) e3)⟩
      · subst h1
        have hb : h.objs.size = b := by simpa using hj
        subst hb
        exact ⟨key, kk, x, by rw [hal]; exact hx, hkey, up _ _ (Nat.ne_of_gt hSl) ht⟩
      · have hnone : (as ++ [h.objs.size])[j]? = none := List.getElem?_eq_none (by rw [List.length_append, List.length_singleton]; omega)
        rw [hnone] at hj; cases hj
/-- list(z) -/
theorem zst_call {Q : Value → Shared → Prop} (hh : A.handled = none) (D : ZipApart z TI TO i1 i2 l1 l2) (st : Zst s.heap z TI TO i1 i2 l1 l2 s.heap.objs.size xs ys 0) (hz0 : IsZip s.heap z TI TO .none) (hTO : ∃ a b, IsPair s.heap TO a b) (hn : kvs.length ≤ sizeLine) (hxs : xs.size = kvs.length)
    (hp : ∀ (j : Nat) k x, kvs[j]? = some (k, x) → ∃ key, xs[j]? = some key ∧ ys[j]? = some x ∧ knd.is k key = true)
    (hQ : ∀ h' acc c as, (∀ b o, b ≠ z → b ≠ TO → b ≠ i1 → b ≠ i2 → s.heap.get? b = some o → h'.get? b = some o) → h'.get? s.heap.objs.size = some { cls := .type "list", dict := none, data := .seq acc c, slots := #[] } → as.length = kvs.length → PySem.W.KdxG knd kvs s.heap.objs.size h' as →
      acc.toList = as.map Value.ref → Q (.ref s.heap.objs.size) { s with heap := h' }) :
    wpAny (model prog w) A (call (.type "list") [.ref z]) Q E s := by
  refine callType_codes (Q₁ := fun obj s₁ => obj = .ref s.heap.objs.size ∧ s₁ = { s with heap := s.heap.push { cls := .type "list", data := .seq #[] } }) PySem.F.called_list (PySem.F.typeCall_list_1 _) PySem.F.entry_list_init
    (code_list_new _ ⟨rfl, rfl⟩) fun obj s₁ h₁ => ?_
  obtain ⟨rfl, rfl⟩ := h₁
  have lt : ∀ {c o}, s.heap.get? c = some o → c < s.heap.objs.size := fun e => Heap.lt_size e
  obtain ⟨hTI, ⟨o1, e1, _⟩, ⟨o2, e2, _⟩, ⟨o3, e3, _⟩, ⟨o4, e4, _⟩, _⟩ := id st
  obtain ⟨ta, tb, hTO⟩ := hTO
  have nS : z ≠ s.heap.objs.size ∧ TI ≠ s.heap.objs.size ∧ TO ≠ s.heap.objs.size ∧ i1 ≠ s.heap.objs.size ∧ i2 ≠ s.heap.objs.size ∧ l1 ≠ s.heap.objs.size ∧ l2 ≠ s.heap.objs.size :=
    ⟨Nat.ne_of_lt (lt hz0), Nat.ne_of_lt (lt hTI), Nat.ne_of_lt (lt hTO), Nat.ne_of_lt (lt e1), Nat.ne_of_lt (lt e2), Nat.ne_of_lt (lt e3), Nat.ne_of_lt (lt e4)⟩
  have low : z < s.heap.objs.size ∧ TO < s.heap.objs.size ∧ i1 < s.heap.objs.size ∧ i2 < s.heap.objs.size := ⟨lt hz0, lt hTO, lt e1, lt e2⟩
  have hS : (s.heap.push { cls := .type "list", data := .seq #[] }).get? s.heap.objs.size = some { cls := .type "list", data := .seq #[] } := Heap.get?_push_size _ rfl
  refine ⟨⟨_, hS, rfl⟩, PySem.F.args_list_init_2 _ _, ?_⟩
  show wpAny _ _ (do let old ← Builtin.List.listItems (.ref s.heap.objs.size); Builtin.List.listUpdate (.ref s.heap.objs.size) (fun _ => #[]); letGo old.toList.reverse; Builtin.List.listExtendWith (.ref s.heap.objs.size) (.ref z) .none) _ _ _
  refine wpAny_bind ?_
  unfold Builtin.List.listItems
  refine wpAny_bind (wpAny_seqItems hS rfl (wpAny_pure ?_))
  show wpAny _ _ (updateSeq s.heap.objs.size (fun _ => #[]) >>= fun _ => letGo (#[] : Array Value).toList.reverse >>= fun _ => Builtin.List.listExtendWith (.ref s.heap.objs.size) (.ref z) .none) _ _ _
  refine wpAny_bind (wpAny_updateSeq hS rfl ?_)
  have hS₂ := Heap.get?_update_self (Obj.mapSeq (fun _ => (#[] : Array Value))) hS rfl
  have oth : ∀ b o, b ≠ s.heap.objs.size → s.heap.get? b = some o → ((s.heap.push { cls := .type "list", data := .seq #[] }).update s.heap.objs.size (Obj.mapSeq (fun _ => (#[] : Array Value)))).get? b = some o :=
    fun b o hb e => (Heap.get?_update_other _ _ (Ne.symm hb)).trans (Heap.get?_push_of_some _ e)
  refine wpAny_bind (wpAny_letGo ?_)
  have st2 := st.keep nS oth
  have hz2 := oth z _ nS.1 hz0
  generalize hh2 : (s.heap.push { cls := .type "list", data := .seq #[] }).update s.heap.objs.size (Obj.mapSeq (fun _ => (#[] : Array Value))) = h2 at *
  unfold Builtin.List.listExtendWith
  have hT : ∀ (g : Array GenState) (d : Drawn) (tk : Nat) (os : OsState), (⟨h2, g, d, tk, os⟩ : Shared).TypeIs (.ref z) "zip" := fun g d tk os => ⟨_, hz2, rfl⟩
  refine wpAny_bind (wpAny_typeOf (hT _ _ _ _) ?_)
  have q1 : Builtin.List.listSameRef (.ref s.heap.objs.size) (.ref z) = false := by simp [Builtin.List.listSameRef, nS.1.symm]
  have q2 : (Value.type "zip" == Value.type "list") = false := by decide
  have q3 : (Value.type "zip" == Value.type "tuple") = false := by decide
  simp only [q1, q2, q3, Bool.or_false, Bool.false_eq_true, if_false]
  refine wpAny_bind (wpAny_pyIter_zip hz2 ?_)
  refine wpAny_bind (wpAny_holding ?_)
  unfold Builtin.List.listLengthHint
  refine wpAny_bind (wpAny_specialOf (hT _ _ _ _) zip_no_len ?_)
  show wpAny _ _ (specialOf (Value.ref z) (Str.ofString "__length_hint__") >>= _) _ _ _
  refine wpAny_bind (wpAny_specialOf (hT _ _ _ _) zip_no_hint ?_)
  refine wpAny_pure ?_
  show wpAny _ _ (rule "list.extend.makes-room" >>= fun _ => Builtin.List.listTouch (.ref s.heap.objs.size) >>= fun _ =>
    again (.builtin "list.extend.loop" ⟨[.ref s.heap.objs.size, .ref z, .none], []⟩)) _ _ _
  refine wpAny_bind (wpAny_rule ?_)
  refine wpAny_bind ?_
  show wpAny _ _ (updateSeq s.heap.objs.size (·.push .none) >>= fun _ => updateSeq s.heap.objs.size (·.pop)) _ _ _
  refine wpAny_bind (wpAny_updateSeq hS₂ rfl ?_)
  have hS₃ := Heap.get?_update_self (Obj.mapSeq (·.push Value.none)) hS₂ rfl
  refine wpAny_updateSeq (hz := by seq_fits) hS₃ rfl ?_
  have hS₄ := Heap.get?_update_self (Obj.mapSeq (·.pop)) hS₃ rfl
  have oth2 : ∀ b o, b ≠ s.heap.objs.size → h2.get? b = some o → ((h2.update s.heap.objs.size (Obj.mapSeq (·.push Value.none))).update s.heap.objs.size (Obj.mapSeq (·.pop))).get? b = some o :=
    fun b o hb e => (Heap.get?_update_other _ _ (Ne.symm hb)).trans ((Heap.get?_update_other _ _ (Ne.symm hb)).trans e)
  refine wpAny_pure ⟨plainId_quiet PySem.F.plain_extend_loop _, ?_⟩
  refine zst_loop (A := A.in1) (s := s) (knd := knd) (kvs := kvs) (h₁ := s.heap) hh D nS low hn hxs hp .none (fun h' acc c as hk hS' hl hG hacc => ?_) kvs.length 0 _ _ #[] [] (Nat.sub_zero _) (Nat.zero_le _) (st2.keep nS oth2) (fun b o e0 _ _ _ _ e => oth2 b o e0 (oth b o e0 e)) hS₄ rfl rfl
    ⟨List.Pairwise.nil, (fun _ ha => nomatch ha), (fun j a hj => by simp at hj)⟩
  exact ⟨rfl, hQ h' acc c as (fun b o e1 e2 e3 e4 e => hk b o (Nat.ne_of_lt (lt e)) e1 e2 e3 e4 e) hS' hl hG hacc⟩
end
section
variable {X : Cx}
theorem zip_laid {pins : List (Addr × Obj)} {σ : L2.St} {H : Hp} {s : Shared} {h' : Heap} {S : Addr} {kvs : List (Key × V)} {vs : List (Key × Value)} {acc : Array Value} {c : Nat} {as : List Addr} (I : Inv X pins σ H s) (hSS : s.heap.objs.size ≤ S) (hz : kvs.length ≤ sizeLine) (kv : KV kvs vs)
    (hk : ∀ b o, s.heap.get? b = some o → h'.get? b = some o) (hS : h'.get? S = some { cls := .type "list", dict := none, data := .seq acc c, slots := #[] }) (hl : as.length = vs.length) (hG : PySem.W.KdxG (mixKind X.prog X.w) vs S h' as) (hacc : acc.toList = as.map Value.ref) :
    ∃ H' : Hp, Same H H' ∧ H S = none ∧ (∀ t ∈ as, H t = none) ∧ S ∉ as ∧ H' S = some (.lst (as.map V.ref)) ∧ Paired (fun (t : Addr) (q : Key × V) => H' t = some (.tup [kV q.1, q.2])) as kvs ∧ Inv X pins σ H' { s with heap := h' } := by
  have lk : kvs.length = vs.length := Paired.length kv
  have hSn : S ∉ as := fun z => Nat.lt_irrefl _ (hG.above _ z)
  have nd : as.Nodup := List.Pairwise.imp (fun {a b} (h : a < b) => Nat.ne_of_lt h) hG.rise
  have new : ∀ t ∈ as, H t = none := fun t ht => I.hok.fresh (Nat.le_trans hSS (Nat.le_of_lt (hG.above t ht)))
  have newS : H S = none := I.hok.fresh hSS
  have atP := putT_at as kvs (upd H S (.lst (as.map V.ref))) (by omega) nd
  have off : ∀ b, b ∉ as → b ≠ S → putT (upd H S (.lst (as.map V.ref))) as kvs b = H b := fun b h1 h2 => by rw [putT_off as kvs _ h1, upd_ne h2]
  have low : ∀ b o, s.heap.get? b = some o → b ∉ as ∧ b ≠ S := fun b o e =>
    ⟨fun z => absurd (Heap.lt_size e) (Nat.not_lt.mpr (Nat.le_trans hSS (Nat.le_of_lt (hG.above b z)))), Nat.ne_of_lt (Nat.lt_of_lt_of_le (Heap.lt_size e) hSS)⟩
  have kp : ∀ b u, H b = some u → (putT (upd H S (.lst (as.map V.ref))) as kvs) b = some u := fun b u e => by
    rw [off b (fun z => by rw [new b z] at e; cases e) (fun z => by rw [z, newS] at e; cases e)]
    exact e
  have eS : putT (upd H S (.lst (as.map V.ref))) as kvs S = some (.lst (as.map V.ref)) := by rw [putT_off as kvs _ hSn, upd_same]
  refine ⟨putT (upd H S (.lst (as.map V.ref))) as kvs, kp, newS, new, hSn, eS, atP, ?_⟩
  refine I.call' (s' := { s with heap := h' }) (ch := []) rfl ⟨fun b o q _ _ _ => hk b o q, fun b o q _ _ _ => ⟨o.slots, hk b o q⟩, fun b o q n _ => ?_, fun b o q _ => ⟨o, hk b o q⟩, fun b xs q => kp b _ q, fun b o u q => kp b _ q, fun b ps q => ⟨#[], by rw [kp b _ q]; simp⟩⟩ (fun b u q => ?_) I.bare fun b z => by simp at z
  · obtain ⟨z1, z2⟩ := low b o q
    rw [off b z1 z2]
    exact n
  · by_cases hb : b ∈ as
    · obtain ⟨j, pk, e1, e2, e3⟩ := paired_ix atP hb
      rw [e3] at q
      cases q
      obtain ⟨key, k, x, f1, f2, f3⟩ := hG.pairs j b e1
      obtain ⟨qv, g1, g2, g3⟩ := LiI.paired_get kv e2
      rw [f1] at g1
      cases g1
      have rk : RelV (kV pk.1) key := by
        rw [g2]
        exact relV_key (show keyIs k key = true from f2)
      exact ⟨by show 2 ≤ sizeLine; decide, [key, x], .cons rk (.cons g3 .nil), ⟨_, f3, rfl, _, rfl⟩⟩
    · by_cases hb2 : b = S
      · rw [hb2] at q ⊢
        rw [eS] at q
        cases q
        refine ⟨by rw [List.length_map]; omega, acc.toList, c, by rw [hacc]; exact LiI.vals_refs as, ?_⟩
        rw [Array.toArray_toList]
        exact hS
      · rw [off b hb hb2] at q
        exact (I.hok b u q).stay (fun d v _ y => hk d v y) (fun d y => kp d _ y) fun d xs y => kp d _ y
/-- list(zip(e, e2)) -/
def tListZip (K : PySem.W.Frag) (ta : TA) : TE := fun σ H Q => ta σ H fun vs H1 => ∃ (a b : Addr) (xs ys : List Str), vs = [.ref a, .ref b] ∧ SqL K H1 a (xs.map V.str) ∧ SqL K H1 b (ys.map V.str) ∧ xs.length = ys.length ∧ xs.length ≤ 1000 ∧
  ∀ (H' : Hp) (p : Addr) (ts : List Addr), Same H1 H' → H1 p = none → H' p = some (.lst (ts.map V.ref)) → Paired (fun (t : Addr) (q : Key × V) => H' t = some (.tup [kV q.1, q.2])) ts ((xs.zip ys).map fun q => (Sum.inr q.1, V.str q.2)) → Q (.ref p) H'
theorem zip_kv : ∀ {xs ys : List Str} {us ws : List Value}, Vals (xs.map V.str) us → Vals (ys.map V.str) ws → KV ((xs.zip ys).map fun q => ((Sum.inr q.1 : Key), V.str q.2)) ((xs.zip ws).map fun q => (Sum.inr q.1, q.2))
  | [], _, _, _, _, _ => .nil
  | _ :: _, [], _, _, _, .nil => .nil
  | x :: xs, y :: ys, _, _, .cons _ r1, .cons h r2 => .cons ⟨rfl, h⟩ (zip_kv r1 r2)
theorem zip_keys : ∀ {xs : List Str} {us ws : List Value} {j : Nat} {k : Key} {v : Value}, Vals (xs.map V.str) us → ((xs.zip ws).map fun q => ((Sum.inr q.1 : Key), q.2))[j]? = some (k, v) → ∃ key, us[j]? = some key ∧ ws[j]? = some v ∧ keyIs k key = true
  | [], _, _, j, _, _, _, h => by simp at h
  | x :: xs, _, [], j, _, _, _, h => by simp at h
  | x :: xs, u :: us, w :: ws, 0, k, v, .cons r _, h => by
    simp at h
    obtain ⟨rfl, rfl⟩ := h
    obtain ⟨t, rfl⟩ := (show ∃ t, u = Value.str x t from r)
    exact ⟨_, rfl, rfl, by simp [keyIs, Value.isStrOf]⟩
  | x :: xs, u :: us, w :: ws, j + 1, k, v, .cons _ rr, h => by
    obtain ⟨key, h1, h2, h3⟩ := zip_keys (j := j) rr (by simpa using h)
    exact ⟨key, by simpa using h1, by simpa using h2, h3⟩
theorem pe_listZip {e e2 : Expr} {ta : TA} {p p2 pos pos2 : Pos} (hc : X.calm = true) (hz : X.mg "zip" = none) (ha : PA X [e, e2] ta) (hgz : Gl X "zip") (hg : Gl X "list") (hm : X.mg "list" = none)
    (hs : starEach [.Call (.Name "zip" p2) [e, e2] [] pos2] X.env = (false, eval (.Call (.Name "zip" p2) [e, e2] [] pos2) X.env) :: starEach [] X.env := by rfl)
    (hs2 : starEach [e, e2] X.env = (false, eval e X.env) :: starEach [e2] X.env := by rfl) (hpl : (backTo pos2 (starEach [e2] X.env)).any (·.1) = false := by rfl) :
    PE X (.Call (.Name "list" p) [.Call (.Name "zip" p2) [e, e2] [] pos2] [] pos) (tListZip X.K ta) := by
  refine ⟨fun pins s σ H Q I hq => wpAny_Call_Name_kw (ld_blt I hg hm b_list (PyProof.Rows.callWith_type1 ?_ hs rfl))⟩
  rw [hs]
  show wpAny _ _ (spliced ((false, eval (.Call (.Name "zip" p2) [e, e2] [] pos2) X.env) :: backTo pos (starEach [] X.env))) _ _ s
  refine Calls.spliced_cons ?_
  refine Call_ (ld_blt I hgz hz PyProof.Rows.boot_zip (PyProof.Rows.callWith_type1 (thn (ha.run pos2 pins s σ H _ I hq) fun us s1 ⟨vs, H1, I1, r1, q1⟩ => ?_) hs2 hpl))
  obtain ⟨a, b, xs, ys, ex, hqx, hqy, hlen, hsz, q⟩ := q1
  subst ex
  cases r1 with
  | cons r rr =>
    cases rr with
    | cons r' rr =>
      cases rr
      cases r
      cases r'
      obtain ⟨its, rv, p1, _⟩ := I1.list hqx
      obtain ⟨its2, rv2, pp2, _⟩ := I1.list hqy
      have la : a < s1.heap.objs.size := p1.lt
      have lb : b < s1.heap.objs.size := pp2.lt
      refine call_zip_2 p1.isList pp2.isList fun h' hzz hTI hTO h1 h2 hsz' hk => ?_
      have D := PySem.W.ktu_apart s1.heap.objs.size a b la lb
      refine Calls.spliced_nil ?_
      have st : Zst h' (s1.heap.objs.size + 4) (s1.heap.objs.size + 2) (s1.heap.objs.size + 3) s1.heap.objs.size (s1.heap.objs.size + 1) a b h'.objs.size its.toArray its2.toArray 0 :=
        ⟨hTI, h1, h2, p1.isList.at fun o e => hk _ o e, pp2.isList.at fun o e => hk _ o e, .inl ⟨hzz, _, _, hTO⟩⟩
      have lx : its.length = xs.length := by have := rv.length; rw [List.length_map] at this; exact this.symm
      have ly : its2.length = ys.length := by have := rv2.length; rw [List.length_map] at this; exact this.symm
      have lkv : ((xs.zip its2).map fun q => ((Sum.inr q.1 : Key), q.2)).length = xs.length := by rw [List.length_map, List.length_zip]; omega
      refine zst_call (A := X.A) (s := { s1 with heap := h' }) (knd := mixKind X.prog X.w) (kvs := (xs.zip its2).map fun q => (Sum.inr q.1, q.2)) (I1.ok.hd hc) D st hzz ⟨_, _, hTO⟩ (by rw [lkv, sizeLine_eq]; omega) (by rw [lkv, List.size_toArray, lx])
        (fun j k x e => by
          obtain ⟨key, g1, g2, g3⟩ := zip_keys rv e
          exact ⟨key, by simpa using g1, by simpa using g2, g3⟩) fun h'' acc c as hk' hS hl hG hacc => ?_
      have hS' : s1.heap.objs.size ≤ h'.objs.size := by rw [hsz']; omega
      have keep : ∀ b o, s1.heap.get? b = some o → h''.get? b = some o := fun b o eb => by
        have hlt := Heap.lt_size eb
        exact hk' b o (Nat.ne_of_lt (Nat.lt_of_lt_of_le hlt (Nat.le_add_right _ 4))) (Nat.ne_of_lt (Nat.lt_of_lt_of_le hlt (Nat.le_add_right _ 3))) (Nat.ne_of_lt hlt) (Nat.ne_of_lt (Nat.lt_of_lt_of_le hlt (Nat.le_add_right _ 1))) (hk b o eb)
      obtain ⟨H', k1, k2, k3, k4, k5, k6, J⟩ := zip_laid (S := h'.objs.size) I1 hS' (by rw [List.length_map, List.length_zip, sizeLine_eq]; omega) (zip_kv rv rv2) keep hS hl hG hacc
      exact ⟨.ref _, H', J, rfl, q H' _ as k1 k2 k5 k6⟩
end
end U

set_option Elab.async false
set_option linter.all false
set_option maxRecDepth 100000
set_option maxHeartbeats 4000000
/-! Other names, doubled weights: the chances stay. -/
namespace U
open PySem PySem.Spec PyProof.Rows L2
/-! doubling -/
def dbl (ru : Ru) : Ru := ⟨ru.w.map (2 * ·), ru.s.map (2 * ·), ru.n⟩
theorem dbl_getD (l : List Int) (i : Nat) : ((l.map (2 * ·))[i]?).getD 0 = 2 * (l[i]?).getD 0 := by
  rw [List.getElem?_map]
  cases l[i]? <;> simp
theorem dbl_wtA (ru : Ru) (bs : List Str) (st : Stn) (a : Int) : wtA (dbl ru) bs st a = 2 * wtA ru bs st a := by
  unfold wtA
  split
  · split
    · rfl
    · split
      · exact dbl_getD _ _
      · exact dbl_getD _ _
  · rfl
theorem dbl_wtK (ru : Ru) (bs : List Str) (p : Str × Int) : wtK (dbl ru) bs p = 2 * wtK ru bs p := by
  unfold wtK
  split
  · rfl
  · have : (dbl ru).w.length = ru.w.length := by simp [dbl]
    rw [this]
    show ((ru.w.map (2 * ·))[ru.w.length - 1]?).getD 0 * p.2 = _
    rw [dbl_getD, Int.mul_assoc]
theorem dbl_told (ru : Ru) (so : So) (st : Stn) : told (dbl ru) so st = (told ru so st).map fun p => (p.1, 2 * p.2) := by
  unfold told
  rw [List.map_append, List.map_map, List.map_map]
  congr 1
  · refine List.map_congr_left fun a _ => ?_
    simp only [Function.comp_def, dbl_wtA]
    rfl
  · refine List.map_congr_left fun p _ => ?_
    simp only [Function.comp_def, dbl_wtK]
    rfl
theorem dbl_any (ru : Ru) (so : So) (st : Stn) : anyW (told (dbl ru) so st) = anyW (told ru so st) := by
  unfold anyW
  rw [dbl_told, List.map_map, List.any_map, List.any_map]
  congr 1
  funext p
  show (2 * p.2 != 0) = (p.2 != 0)
  by_cases h : p.2 = 0
  · rw [h]; rfl
  · have : 2 * p.2 ≠ 0 := by omega
    exact (bne_iff_ne.mpr this).trans (bne_iff_ne.mpr h).symm
theorem look_map2 (l : List (Key × Int)) (k : Key) : look (l.map fun p => (p.1, 2 * p.2)) k = (look l k).map (2 * ·) := by
  induction l with
  | nil => rfl
  | cons p r ih =>
    by_cases h : p.1 = k
    · simp [look, h]
    · simpa [look, List.find?_cons, h] using ih
theorem wsum_map2 (l : List (Key × Int)) : wsum (l.map fun p => (p.1, 2 * p.2)) = 2 * wsum l := by
  induction l with
  | nil => rfl
  | cons p r ih => rw [List.map_cons, wsum_cons, ih, wsum_cons]; omega
theorem frac_two {n S : Int} (hn : 0 ≤ n) (hS : 0 < S) : frac (2 * n) (2 * S) = frac n S := by
  obtain ⟨a, rfl⟩ := Int.eq_ofNat_of_zero_le hn
  obtain ⟨b, rfl⟩ := Int.eq_ofNat_of_zero_le (Int.le_of_lt hS)
  have e1 : (2 * (a : Int)).toNat = 2 * a := by omega
  have e2 : (2 * (b : Int)).toNat = 2 * b := by omega
  unfold frac
  rw [e1, e2, Int.toNat_natCast, Int.toNat_natCast, Nat.gcd_mul_left, Nat.mul_div_mul_left _ _ (by decide), Nat.mul_div_mul_left _ _ (by decide)]
/-- a rule whose chances are those of ru -/
def Alike (ru ru' : Ru) (so : So) (st : Stn) : Prop := ∀ k n, look (allw ru so st) k = some n → ∃ n', look (allw ru' so st) k = some n' ∧ chn (allw ru' so st) n' = chn (allw ru so st) n
theorem alike_self (ru : Ru) (so : So) (st : Stn) : Alike ru ru so st := fun k n h => ⟨n, h, rfl⟩
theorem alike_dbl {ru : Ru} {so : So} {st : Stn} (rk : RuOk ru) (sk : SoOk so) (ok : StOk ru so st) : Alike ru (dbl ru) so st := by
  intro k n h
  have hS := (allw_sum rk sk ok).1
  have hn := (allw_b rk sk (look_some h)).1
  by_cases ha : anyW (told ru so st) = true
  · have e1 : allw ru so st = told ru so st := by unfold allw; rw [if_pos ha]
    have e2 : allw (dbl ru) so st = (told ru so st).map fun p => (p.1, 2 * p.2) := by unfold allw; rw [if_pos (by rw [dbl_any]; exact ha), dbl_told]
    rw [e1] at h hS
    refine ⟨2 * n, by rw [e2, look_map2, h]; rfl, ?_⟩
    unfold chn
    rw [e2, e1, wsum_map2]
    exact frac_two hn hS
  · have ha2 : ¬ anyW (told (dbl ru) so st) = true := by rw [dbl_any]; exact ha
    have e : allw (dbl ru) so st = allw ru so st := by
      unfold allw
      rw [if_neg ha, if_neg ha2]
      have el : lastK (told (dbl ru) so st) = lastK (told ru so st) := by
        unfold lastK
        rw [dbl_told, List.map_map]
        rfl
      rw [el, dbl_told, List.map_map]
      rfl
    exact ⟨n, by rw [e]; exact h, by rw [e]⟩
theorem dbl_ok {ru : Ru} (rk : RuOk ru) (h1 : ∀ x ∈ ru.w.map (2 * ·), x < 10) (h2 : ∀ x ∈ ru.s.map (2 * ·), x < 10) : RuOk (dbl ru) := by
  refine ⟨by simp [dbl]; exact rk.w1, by simp [dbl]; exact rk.w4, by simp [dbl]; exact rk.sl, fun x hx => ?_, fun x hx => ?_, rk.n0, by simp [dbl]; exact rk.n1⟩
  · have hx' : x ∈ ru.w.map (2 * ·) := hx
    have := h1 x hx'
    obtain ⟨y, hy, rfl⟩ := List.mem_map.mp hx'
    have := rk.wp y hy
    omega
  · have hx' : x ∈ ru.s.map (2 * ·) := hx
    have := h2 x hx'
    obtain ⟨y, hy, rfl⟩ := List.mem_map.mp hx'
    have := rk.sp y hy
    omega
/-! the greatest -/
theorem le_maxOf : ∀ (ns : List Int) (n : Int), n ≤ PySem.W.maxOf n ns ∧ ∀ x ∈ ns, x ≤ PySem.W.maxOf n ns
  | [], n => ⟨Int.le_refl _, fun x h => by cases h⟩
  | m :: ns, n => by
    have e : PySem.W.maxOf n (m :: ns) = PySem.W.maxOf (if decide (n < m) = true then m else n) ns := rfl
    rw [e]
    by_cases h : n < m
    · rw [if_pos (decide_eq_true h)]
      obtain ⟨h1, h2⟩ := le_maxOf ns m
      exact ⟨by omega, fun x hx => by rcases List.mem_cons.mp hx with rfl | hx; exact h1; exact h2 x hx⟩
    · rw [if_neg (by simpa using h)]
      obtain ⟨h1, h2⟩ := le_maxOf ns n
      exact ⟨h1, fun x hx => by rcases List.mem_cons.mp hx with rfl | hx; omega; exact h2 x hx⟩
/-! other names -/
def renI (f : Str → Str) (it : Item) : Item := it.map fun q => (f q.1, q.2)
def renK (f : Str → Str) : Key → Key
  | .inl a => .inl a
  | .inr k => .inr (f k)
def renP (f : Str → Str) (p : Str × Int) : Str × Int := (f p.1, p.2)
/-- f keeps the names of D apart -/
def InjOn (f : Str → Str) (D : List Str) : Prop := ∀ a ∈ D, ∀ b ∈ D, f a = f b → a = b
theorem ren_cnt {f : Str → Str} {D : List Str} (inj : InjOn f D) : ∀ {st : Stn} {k : Str}, k ∈ D → (∀ k b, some (k, b) ∈ st → k ∈ D) → cnt (st.map (renI f)) (f k) = cnt st k
  | [], _, _, _ => rfl
  | it :: r, k, hk, h => by
    rw [List.map_cons, cnt_cons, cnt_cons, ren_cnt inj hk fun k b hm => h k b (by simp [hm])]
    congr 1
    cases it with
    | none => simp [renI, itKd]
    | some q =>
      have hq : q.1 ∈ D := h q.1 q.2 (by simp)
      by_cases e : q.1 = k
      · simp [renI, itKd, e]
      · have : ¬ f q.1 = f k := fun z => e (inj _ hq _ hk z)
        simp [renI, itKd, e, this]
theorem ren_ages (f : Str → Str) : ∀ (st : Stn) (i : Nat), agesFrom i (st.map (renI f)) = agesFrom i st
  | [], _ => rfl
  | it :: r, i => by
    rw [List.map_cons, agesFrom, agesFrom, ren_ages f r]
    cases it <;> simp [agesF, renI]
theorem ren_barred (f : Str → Str) (n : Int) (st : Stn) : barred n (st.map (renI f)) = (barred n st).map f := by
  unfold barred
  rw [← List.map_take]
  generalize st.take n.toNat = l
  induction l with
  | nil => rfl
  | cons it r ih =>
    cases it with
    | none =>
      have a1 : ((none : Item) :: r).filterMap barF = r.filterMap barF := rfl
      have a2 : (((none : Item) :: r).map (renI f)).filterMap barF = (r.map (renI f)).filterMap barF := rfl
      rw [a1, a2, ih]
    | some q =>
      have a1 : ((some q : Item) :: r).filterMap barF = q.1 :: r.filterMap barF := rfl
      have a2 : (((some q : Item) :: r).map (renI f)).filterMap barF = f q.1 :: (r.map (renI f)).filterMap barF := rfl
      rw [a1, a2, ih]
      rfl
theorem barred_in {D : List Str} {n : Int} {st : Stn} (h : ∀ k b, some (k, b) ∈ st → k ∈ D) : ∀ k ∈ barred n st, k ∈ D := by
  intro k hk
  unfold barred at hk
  obtain ⟨it, hit, e⟩ := List.mem_filterMap.mp hk
  cases it with
  | none => simp [barF] at e
  | some q =>
    simp [barF] at e
    subst e
    exact h q.1 q.2 (List.mem_of_mem_take hit)
theorem mem_ren {f : Str → Str} {D l : List Str} (inj : InjOn f D) (hl : ∀ k ∈ l, k ∈ D) {k : Str} (hk : k ∈ D) : f k ∈ l.map f ↔ k ∈ l := by
  constructor
  · intro h
    obtain ⟨a, ha, e⟩ := List.mem_map.mp h
    rw [← inj a (hl a ha) k hk e]
    exact ha
  · exact fun h => List.mem_map.mpr ⟨k, h, rfl⟩
section
variable {f : Str → Str} {ru : Ru} {so : So} {st : Stn}
theorem ren_wtA (inj : InjOn f (so.map (·.1))) (kin : ∀ k b, some (k, b) ∈ st → k ∈ so.map (·.1)) (n : Int) (a : Int) : wtA ru (barred n (st.map (renI f))) (st.map (renI f)) a = wtA ru (barred n st) st a := by
  unfold wtA
  rw [ren_barred, List.getElem?_map]
  cases e : st[(a - 1).toNat]? with
  | none => rfl
  | some it =>
    cases it with
    | none => rfl
    | some q =>
      have hq := kin q.1 q.2 (List.mem_of_getElem? e)
      have := mem_ren inj (barred_in (n := n) kin) hq
      simp only [Option.map_some, renI]
      by_cases h : q.1 ∈ barred n st
      · rw [if_pos h, if_pos (this.mpr h)]
      · rw [if_neg h, if_neg (fun z => h (this.mp z))]
theorem ren_old (inj : InjOn f (so.map (·.1))) (kin : ∀ k b, some (k, b) ∈ st → k ∈ so.map (·.1)) : old (so.map (renP f)) (st.map (renI f)) = (old so st).map (renP f) := by
  unfold old
  rw [List.map_map]
  have e : so.map ((fun p : Str × Int => (p.1, p.2 - cnt (st.map (renI f)) p.1)) ∘ renP f) = (so.map fun p => (p.1, p.2 - cnt st p.1)).map (renP f) := by
    rw [List.map_map]
    refine List.map_congr_left fun p hp => ?_
    simp only [Function.comp_def, renP]
    rw [ren_cnt inj (List.mem_map.mpr ⟨p, hp, rfl⟩) kin]
  rw [e, List.filter_map]
  rfl
theorem old_in : ∀ p ∈ old so st, p.1 ∈ so.map (·.1) := fun p hp => let ⟨_, n, hn, _⟩ := old_mem hp; List.mem_map.mpr ⟨_, hn, rfl⟩
theorem ren_told (inj : InjOn f (so.map (·.1))) (kin : ∀ k b, some (k, b) ∈ st → k ∈ so.map (·.1)) : told ru (so.map (renP f)) (st.map (renI f)) = (told ru so st).map fun p => (renK f p.1, p.2) := by
  unfold told
  rw [List.map_append, List.map_map, List.map_map, ren_old inj kin, List.map_map]
  congr 1
  · unfold agesOf
    rw [ren_ages]
    refine List.map_congr_left fun a _ => ?_
    simp only [Function.comp_def, ren_wtA inj kin]
    rfl
  · refine List.map_congr_left fun p hp => ?_
    have hm := mem_ren inj (barred_in (n := ru.n) kin) (old_in p hp)
    have e : wtK ru ((barred ru.n st).map f) (f p.1, p.2) = wtK ru (barred ru.n st) p := by
      unfold wtK
      by_cases h : p.1 ∈ barred ru.n st
      · rw [if_pos h, if_pos (hm.mpr h)]
      · rw [if_neg h, if_neg (fun z => h (hm.mp z))]
    show (Sum.inr (f p.1), wtK ru (barred ru.n (st.map (renI f))) (f p.1, p.2)) = (Sum.inr (f p.1), wtK ru (barred ru.n st) p)
    rw [ren_barred, e]
theorem told_in : ∀ k, Sum.inr k ∈ (told ru so st).map (·.1) → k ∈ so.map (·.1) := by
  intro k h
  rw [told_keys] at h
  rcases List.mem_append.mp h with h | h
  · obtain ⟨a, _, e⟩ := List.mem_map.mp h
    cases e
  · obtain ⟨p, hp, e⟩ := List.mem_map.mp h
    cases e
    exact old_in p hp
theorem renK_inj (inj : InjOn f (so.map (·.1))) {a b : Key} (ha : ∀ k, a = .inr k → k ∈ so.map (·.1)) (hb : ∀ k, b = .inr k → k ∈ so.map (·.1)) (h : renK f a = renK f b) : a = b := by
  cases a with
  | inl x =>
    cases b with
    | inl y => exact h
    | inr y => cases h
  | inr x =>
    cases b with
    | inl y => cases h
    | inr y => rw [inj x (ha x rfl) y (hb y rfl) (Sum.inr.inj h)]
theorem look_ren (inj : InjOn f (so.map (·.1))) : ∀ {l : List (Key × Int)} {k : Key}, (∀ p ∈ l, ∀ z, p.1 = .inr z → z ∈ so.map (·.1)) → (∀ z, k = .inr z → z ∈ so.map (·.1)) → look (l.map fun p => (renK f p.1, p.2)) (renK f k) = look l k
  | [], _, _, _ => rfl
  | p :: r, k, hl, hk => by
    have ih := look_ren inj (l := r) (k := k) (fun q hq => hl q (by simp [hq])) hk
    by_cases h : p.1 = k
    · simp [look, h]
    · have h' : ¬ renK f p.1 = renK f k := fun z => h (renK_inj inj (hl p (by simp)) hk z)
      simpa [look, List.find?_cons, h, h'] using ih
theorem ren_allw (inj : InjOn f (so.map (·.1))) (kin : ∀ k b, some (k, b) ∈ st → k ∈ so.map (·.1)) : allw ru (so.map (renP f)) (st.map (renI f)) = (allw ru so st).map fun p => (renK f p.1, p.2) := by
  have et := ren_told (ru := ru) inj kin
  have ea : anyW (told ru (so.map (renP f)) (st.map (renI f))) = anyW (told ru so st) := by
    unfold anyW
    rw [et, List.map_map]
    rfl
  unfold allw
  rw [ea]
  split
  · exact et
  · rw [et, List.map_map, List.map_map]
    refine List.map_congr_left fun p hp => ?_
    simp only [Function.comp_def]
    have eo := ren_old inj kin
    have hpk : ∀ z, p.1 = .inr z → z ∈ so.map (·.1) := fun z e => told_in (ru := ru) (st := st) z (e ▸ List.mem_map.mpr ⟨p, hp, rfl⟩)
    have e0 : (old (so.map (renP f)) (st.map (renI f)) = []) ↔ (old so st = []) := by rw [eo]; simp
    unfold fbW
    have el : look (ks (old (so.map (renP f)) (st.map (renI f)))) (renK f p.1) = look (ks (old so st)) p.1 := by
      rw [eo]
      have : ks ((old so st).map (renP f)) = (ks (old so st)).map fun q => (renK f q.1, q.2) := by
        unfold ks
        rw [List.map_map, List.map_map]
        rfl
      rw [this]
      refine look_ren inj (fun q hq z e => ?_) hpk
      obtain ⟨r, hr, e2⟩ := List.mem_map.mp hq
      subst e2
      cases e
      exact old_in r hr
    rw [el]
    by_cases ho : old so st = []
    · rw [if_pos ho, if_pos (e0.mpr ho)]
      have elast : lastK (List.map (fun p => (renK f p.1, p.2)) (told ru so st)) = (lastK (told ru so st)).map (renK f) := by
        unfold lastK
        rw [List.map_map]
        have : (told ru so st).map ((fun x : Key × Int => x.1) ∘ fun p => (renK f p.1, p.2)) = ((told ru so st).map (·.1)).map (renK f) := by rw [List.map_map]; rfl
        rw [this, List.getLast?_map]
      rw [elast]
      cases hl : lastK (told ru so st) with
      | none => rfl
      | some kl =>
        have hkl : ∀ z, kl = .inr z → z ∈ so.map (·.1) := fun z e => by
          have := List.mem_of_getLast? hl
          rw [e] at this
          exact told_in z this
        by_cases q : kl = p.1
        · subst q; simp
        · have q' : ¬ renK f kl = renK f p.1 := fun z => q (renK_inj inj hkl hpk z)
          simp [q, q']
    · rw [if_neg ho, if_neg (fun z => ho (e0.mp z))]
      rfl
theorem ren_chance (inj : InjOn f (so.map (·.1))) (kin : ∀ k b, some (k, b) ∈ st → k ∈ so.map (·.1)) {k : Key} {n : Int} (h : look (allw ru so st) k = some n) :
    look (allw ru (so.map (renP f)) (st.map (renI f))) (renK f k) = some n ∧ chn (allw ru (so.map (renP f)) (st.map (renI f))) n = chn (allw ru so st) n := by
  have hk : ∀ p ∈ allw ru so st, ∀ z, p.1 = .inr z → z ∈ so.map (·.1) := fun p hp z e => by
    have : p.1 ∈ (allw ru so st).map (·.1) := List.mem_map.mpr ⟨p, hp, rfl⟩
    rw [allw_keys, e] at this
    exact told_in z this
  have hm := look_some h
  refine ⟨?_, ?_⟩
  · rw [ren_allw inj kin, look_ren inj hk (hk _ hm), h]
  · unfold chn
    rw [ren_allw inj kin]
    congr 1
    unfold wsum
    rw [List.map_map]
    rfl
theorem ren_ok {nu : So} (inj : InjOn f (nu.map (·.1))) (nm : ∀ k ∈ nu.map (·.1), NameOk (f k)) (ok : SoOk nu) : SoOk (nu.map (renP f)) := by
  have ek : (nu.map (renP f)).map (·.1) = (nu.map (·.1)).map f := by rw [List.map_map, List.map_map]; rfl
  refine ⟨by rw [List.length_map]; exact ok.l1, by rw [List.length_map]; exact ok.l3, ?_, fun p hp => ?_, fun p hp => ?_, ?_⟩
  · rw [ek]
    have nd := ok.nd
    generalize nu.map (·.1) = l at inj nd
    induction l with
    | nil => exact .nil
    | cons a r ih =>
      rw [List.nodup_cons] at nd
      rw [List.map_cons, List.nodup_cons]
      refine ⟨fun z => ?_, ih (fun x hx y hy => inj x (by simp [hx]) y (by simp [hy])) nd.2⟩
      obtain ⟨b, hb, e⟩ := List.mem_map.mp z
      exact nd.1 (inj b (by simp [hb]) a (by simp) e ▸ hb)
  · obtain ⟨q, hq, rfl⟩ := List.mem_map.mp hp
    exact nm q.1 (List.mem_map.mpr ⟨q, hq, rfl⟩)
  · obtain ⟨q, hq, rfl⟩ := List.mem_map.mp hp
    exact ok.np q hq
  · have : (nu.map (renP f)).map (·.2) = nu.map (·.2) := by rw [List.map_map]; rfl
    rw [this]
    exact ok.pos
theorem ren_stok (inj : InjOn f (so.map (·.1))) (sk : SoOk so) (sk' : SoOk (so.map (renP f))) (ok : StOk ru so st) : StOk ru (so.map (renP f)) (st.map (renI f)) := by
  refine ⟨by rw [List.length_map]; exact ok.len, fun k b hm => ?_, fun k hk => ?_⟩
  · obtain ⟨it, hit, e⟩ := List.mem_map.mp hm
    cases it with
    | none => simp [renI] at e
    | some q =>
      simp [renI] at e
      have := ok.kin q.1 q.2 hit
      obtain ⟨p, hp, e2⟩ := List.mem_map.mp this
      refine List.mem_map.mpr ⟨renP f p, List.mem_map.mpr ⟨p, hp, rfl⟩, ?_⟩
      rw [← e.1, ← e2]
      rfl
  · obtain ⟨p', hp', rfl⟩ := List.mem_map.mp hk
    rw [num_mem sk'.nd hp']
    obtain ⟨p, hp, rfl⟩ := List.mem_map.mp hp'
    have hpk : p.1 ∈ so.map (·.1) := List.mem_map.mpr ⟨p, hp, rfl⟩
    have e1 := ren_cnt inj hpk ok.kin
    have e2 := num_mem sk.nd hp
    have := ok.few p.1 hpk
    show cnt (st.map (renI f)) (f p.1) ≤ p.2
    rw [e1, ← e2]
    exact this
end
/-! names given by two rows of equal length -/
def renZ (l : List (Str × Str)) (k : Str) : Str := ((l.find? fun q => decide (q.1 = k)).map (·.2)).getD k
theorem renZ_zip : ∀ {xs ys : List Str}, xs.Nodup → xs.length = ys.length → xs.map (renZ (xs.zip ys)) = ys
  | [], [], _, _ => rfl
  | x :: xs, y :: ys, nd, hl => by
    rw [List.nodup_cons] at nd
    have ih := renZ_zip (xs := xs) (ys := ys) nd.2 (by simpa using hl)
    rw [List.map_cons]
    congr 1
    · simp [renZ]
    · refine Eq.trans (List.map_congr_left fun k hk => ?_) ih
      have : ¬ x = k := fun z => nd.1 (z ▸ hk)
      simp [renZ, List.find?_cons, this]
theorem map_injOn {f : Str → Str} : ∀ {xs : List Str}, (xs.map f).Nodup → InjOn f xs
  | [], _ => fun a ha => by cases ha
  | x :: xs, nd => by
    rw [List.map_cons, List.nodup_cons] at nd
    intro a ha b hb e
    rcases List.mem_cons.mp ha with ha | ha <;> rcases List.mem_cons.mp hb with hb | hb
    · rw [ha, hb]
    · rw [ha] at e
      exact absurd (List.mem_map.mpr ⟨b, hb, e.symm⟩) nd.1
    · rw [hb] at e
      exact absurd (List.mem_map.mpr ⟨a, ha, e⟩) nd.1
    · exact map_injOn nd.2 a ha b hb e
end U

set_option Elab.async false
set_option linter.all false
set_option maxRecDepth 100000
set_option maxHeartbeats 4000000
/-! Other names, doubled weights. -/
namespace U
open PySem PySem.Spec PyProof.Rows L2
/-- a block that captures nothing -/
theorem blkOk_own {N : List Str} {sc sc2 scope : Scope} {own : List (Str × Nat)} (hf : (scope.names.all fun y => decide (y.2 ≠ .free)) = true) (h : blkC N sc scope own = true) : BlkOk N sc2 scope own :=
  have b := blkOk_by h
  ⟨b.kind, b.uniq, b.ix, fun y hy e => absurd e (of_decide_eq_true (List.all_eq_true.mp hf y hy)), b.own⟩
/-- the pairs of a dict of texts -/
def DN (l : List (Str × Str)) : List (Key × V) := l.map fun q => (.inr q.1, .str q.2)
theorem valV_DN {l : List (Str × Str)} {k : Str} (h : k ∈ l.map (·.1)) : valV (DN l) (.inr k) = some (.str (renZ l k)) := by
  induction l with
  | nil => cases h
  | cons p r ih =>
    by_cases e : p.1 = k
    · simp [DN, valV, renZ, e]
    · have hk : k ∈ r.map (·.1) := by
        rcases List.mem_cons.mp h with q | q
        · exact absurd q.symm e
        · exact q
      have e2 : valV (DN (p :: r)) (.inr k) = valV (DN r) (.inr k) := valV_neg (p := (Sum.inr p.1, V.str p.2)) (fun z => e (Sum.inr.inj z))
      rw [e2, ih hk]
      simp [renZ, List.find?_cons, e]
theorem dget_dn {H : Hp} {d : Addr} {l : List (Str × Str)} {k : Str} (e : H d = some (.dK (DN l))) (h : k ∈ l.map (·.1)) : DGet H d (kV (.inr k)) (some (.str (renZ l k))) := by
  rw [← valV_DN h]
  exact DGet.k e
theorem eqv_int2 (a b : Int) : PyData.eqv (.tuple [.int a, .int b]) (.tuple [.int a, .int b]) = true := by simp [PyData.eqv, PyData.eqvAll]
theorem ren_snoc (f : Str → Str) {st : Stn} {i : Nat} {it : Item} (h : st[i]? = some it) : (st.map (renI f)).take (i + 1) = (st.map (renI f)).take i ++ [renI f it] := take_snoc (by rw [List.getElem?_map, h]; rfl)
def TupI (H : Hp) (v : V) (l : List Int) : Prop := ∃ a, v = .ref a ∧ H a = some (.tup (l.map V.int))
theorem tkTupI : TkR TupI := fun k ⟨a, e, h⟩ => ⟨a, e, k _ _ h⟩
section
variable {P : Program} {w : World} {K : PySem.W.Frag} {mg : Str → Option Value} {base : Heap}
def pr_named_right : Pr := fun vs H Q => ∃ (q : Dq) (c t : Addr) (ru : Ru) (nu so : So) (st : Stn), vs = [.ref q.d, .ref c, .ref t] ∧ DrAt H q ∧ CaseAt H q.d c ru nu ∧ RuOk ru ∧ SoOk nu ∧ SoOf nu so ∧ StAt H t st ∧ StOk ru so st ∧ ∀ H', Sm q H H' → Q (.bl true) H'
theorem sc_l_named_right : FnScope ["_law_draw", "_law_case", "_law_standing", "_law_fresh", "_law_names", "_law_far", "_law_kind", "_law_there", "_law_item", "_law_double", "_law_word", "_law_one", "_law_is_small", "_law_rules", "_law_place", "_law_seat", "_law_due"] ["_law_draw", "_law_case", "_law_standing"] (defScope s_l_named_right) := ⟨rfl, rfl, rfl, by decide +kernel, rfl, by decide +kernel, by decide +kernel⟩
theorem ok_l_named_right (T : T K mg) : Ok P w K mg base 9 (He.ga K "_law_named_right") pr_named_right := by
  refine Dn.ok T.l_named_right sc_l_named_right (fun _ _ _ _ _ _ us hl => match us, hl with | [_, _, _], _ => rfl) (fun vs H Q h => ?_) fun cdv A outer s H vs Q E hr h => ?_
  · obtain ⟨_, _, _, _, _, _, _, rfl, _⟩ := h
    rfl
  obtain ⟨q, c, t, ru, nu, so, st, rfl, DR, CA, rk, nk, of, St, ok, h⟩ := h
  obtain ⟨fdR, FR, bR⟩ := ok_Rule_init (P := P) (w := w) (base := base) T
  obtain ⟨wa, sa, nd, h1, h2, h3, h4, ncx, nnx⟩ := id CA
  have sk := of.ok nk
  have l3 := nk.l3
  have ndk := ks_nodup nk.nd
  have nlen : (DI (ks nu)).length = nu.length := by rw [DI_length]; simp
  have hl := stok_len rk ok
  have hz2 : ∀ n : Nat, n ≤ 200 → n ≤ sizeLine := fun n hn => by rw [sizeLine_eq]; omega
  have rw4 := rk.w4
  have rw1 := rk.w1
  have rsl := rk.sl
  refine ⟨_, (pss_cons (ps_set (i := 3) sc_l_named_right.nd rfl (by first | exact .inl rfl | exact .inr rfl) (pe_callB cr_sortedS rfl T.z_sorted b_sorted (pa_cons (pe_cal (ok_l_some_names T) (hr.mono (by decide)) rfl T.l_some_names (pa_cons (pv 0) (pa_cons (pe_callB call_lenD rfl T.z_len b_len (pa_cons (pe_dget (hu_of hr) (pv 1) pe_str (fun _ _ => rfl)) pa_nil)) pa_nil))) pa_nil))) (pss_cons (ps_set (i := 4) sc_l_named_right.nd rfl (by first | exact .inl rfl | exact .inr rfl) (pe_callTy (call_dictP rfl) rfl T.z_dict b_dict (pa_cons (pe_listZip rfl T.z_zip (pa_cons (pe_callB (call_sortedD rfl) rfl T.z_sorted b_sorted (pa_cons (pe_dget (hu_of hr) (pv 1) pe_str (fun _ _ => rfl)) pa_nil)) (pa_cons (pv 3) pa_nil)) rfl rfl T.z_list) pa_nil))) (pss_cons (ps_set (i := 5) sc_l_named_right.nd rfl (by first | exact .inl rfl | exact .inr rfl) (pe_callTy (call_dictP rfl) rfl T.z_dict b_dict (pa_cons (LiI.pe_listItems rfl (pv 1) rfl T.z_list b_list) pa_nil))) (pss_cons (ps_dput (hu_of hr) (pv 5) pe_str (pe_callTy (call_dictP rfl) rfl T.z_dict b_dict (pa_cons (pe_lock (pe_lc (own := [("_law_kind", 6)]) (g := gName 6) (tt := tYes) rfl sc_l_named_right.nd  (pi_keys (pe_dget (hu_of hr) (pv 1) pe_str (fun _ _ => rfl))) (blkOk_by (N := ["_law_draw", "_law_case", "_law_standing", "_law_fresh", "_law_names", "_law_far", "_law_kind", "_law_there", "_law_item", "_law_double", "_law_word", "_law_one", "_law_is_small", "_law_rules", "_law_place", "_law_seat", "_law_due"]) (sc := defScope s_l_named_right) (by decide +kernel)) (fun _ _ _ _ _ => pg_name (i := 6) sc_l_named_right.nd rfl (by first | exact .inl rfl | exact .inr rfl)) (fun _ _ _ _ _ => pts_nil) (fun _ _ _ _ _ => (pe_tup (pa_cons (pe_dget (hu_of hr) (pv 4) (pv 6) (fun _ _ => rfl)) (pa_cons (pe_dget (hu_of hr) (pe_dget (hu_of hr) (pv 1) pe_str (fun _ _ => rfl)) (pv 6) (fun _ _ => rfl)) pa_nil)))))) pa_nil)) rfl) (pss_cons (ps_set (i := 7) sc_l_named_right.nd rfl (by first | exact .inl rfl | exact .inr rfl) (pe_callTy (tupK (K := K) rfl) rfl T.z_tuple b_tuple (pa_cons (pe_lc (own := [("_law_item", 8)]) (g := gName 8) (tt := tYes) rfl sc_l_named_right.nd  (piT (K := K) rfl (pv 2)) (blkOk_by (N := ["_law_draw", "_law_case", "_law_standing", "_law_fresh", "_law_names", "_law_far", "_law_kind", "_law_there", "_law_item", "_law_double", "_law_word", "_law_one", "_law_is_small", "_law_rules", "_law_place", "_law_seat", "_law_due"]) (sc := defScope s_l_named_right) (by decide +kernel)) (fun _ _ _ _ _ => pg_name (i := 8) sc_l_named_right.nd rfl (by first | exact .inl rfl | exact .inr rfl)) (fun _ _ _ _ _ => pts_nil) (fun _ _ _ _ _ => (pe_ifExp (pt_cmpR (op_neP (K := K) rfl (by exact hr.units)) (pv 8) (pe_tup pa_nil) (nomark _)) (pe_tup (pa_cons (pe_dget (hu_of hr) (pv 4) (pe_ix (ixT (K := K) rfl) (pv 8) pe_int (fun _ _ => rfl)) (fun _ _ => rfl)) (pa_cons (pe_ix (ixT (K := K) rfl) (pv 8) pe_int (fun _ _ => rfl)) pa_nil))) (pe_tup pa_nil)))) pa_nil))) (pss_cons (ps_setLc (i := 9) (own := [("_law_word", 10)]) (g := gName 10) (tt := tYes) rfl sc_l_named_right.nd rfl rfl (sw_true rfl rfl rfl (by decide +kernel)) (piT (K := K) rfl (pe_tup (pa_cons pe_str (pa_cons pe_str pa_nil)))) (blkOk_by (N := ["_law_draw", "_law_case", "_law_standing", "_law_fresh", "_law_names", "_law_far", "_law_kind", "_law_there", "_law_item", "_law_double", "_law_word", "_law_one", "_law_is_small", "_law_rules", "_law_place", "_law_seat", "_law_due"]) (sc := defScope s_l_named_right) (by decide +kernel)) (fun _ _ _ _ _ => pg_name (i := 10) sc_l_named_right.nd rfl (by first | exact .inl rfl | exact .inr rfl)) (fun _ _ _ _ _ => pts_nil) (fun _ _ _ _ _ => (pe_callTy (tupK (K := K) rfl) rfl T.z_tuple b_tuple (pa_cons (pe_lc (own := [("_law_one", 11)]) (g := gName 11) (tt := tYes) rfl sc_l_named_right.nd  (piT (K := K) rfl (pe_dget (hu_of hr) (pv 1) (pv 10) (fun _ _ => rfl))) (blkOk_own (N := ["_law_draw", "_law_case", "_law_standing", "_law_fresh", "_law_names", "_law_far", "_law_kind", "_law_there", "_law_item", "_law_double", "_law_word", "_law_one", "_law_is_small", "_law_rules", "_law_place", "_law_seat", "_law_due"]) (sc := defScope s_l_named_right) (by decide +kernel) (by decide +kernel)) (fun _ _ _ _ _ => pg_name (i := 11) sc_l_named_right.nd rfl (by first | exact .inl rfl | exact .inr rfl)) (fun _ _ _ _ _ => pts_nil) (fun _ _ _ _ _ => (pe_op op_mul pe_int (pv 11)))) pa_nil)))) (pss_cons (ps_set (i := 12) sc_l_named_right.nd rfl (by first | exact .inl rfl | exact .inr rfl) (pe_cmpR op_lt (pe_callB (cr_maxT rfl (by exact hr.units)) rfl T.z_max b_max (pa_cons (pe_op (catA (K := K) rfl) (pe_op (catA (K := K) rfl) (pe_ix (ixL (K := K) rfl) (pv 9) pe_int (fun _ _ => rfl)) (pe_ix (ixL (K := K) rfl) (pv 9) pe_int (fun _ _ => rfl))) (pe_tup (pa_cons pe_int pa_nil))) pa_nil)) pe_int (nomark _))) (pss_cons (ps_set (i := 13) sc_l_named_right.nd rfl (by first | exact .inl rfl | exact .inr rfl) (pe_lst (pa_cons (pe_cal (ok_l_rule_of T) (hr.mono (by decide)) rfl T.l_rule_of (pa_cons (pv 1) pa_nil)) pa_nil))) (pss_cons (ps_if (pt_val (pv 12)) (pss_one (ps_expr (pe_bm PySem.F.plainAttrs_list PySem.F.slot_list_append PySem.F.type_list_append mt_append (pv 13) (pa_cons (pe_make T.mRule FR (hr.mono (by decide)) rfl T.gRule bR .nil pass0 (pa_cons (pe_ix (ixL (K := K) rfl) (pv 9) pe_int (fun _ _ => rfl)) (pa_cons (pe_ix (ixL (K := K) rfl) (pv 9) pe_int (fun _ _ => rfl)) (pa_cons (pe_dget (hu_of hr) (pv 1) pe_str (fun _ _ => rfl)) pa_nil)))) pa_nil)))) pss_nil) (pss_cons (ps_for PassesOwn.never rfl (piL (K := K) rfl (pe_cal (ok_places T) (hr.mono (by decide)) rfl T.places (pa_cons (pe_ix (ixL (K := K) rfl) (pv 13) pe_int (fun _ _ => rfl)) (pa_cons (pe_cal (ok_l_songs_in T) (hr.mono (by decide)) rfl T.l_songs_in (pa_cons (pv 1) pa_nil)) (pa_cons (pv 2) pa_nil))))) (pg_name (i := 14) sc_l_named_right.nd rfl (by first | exact .inl rfl | exact .inr rfl)) (pss_cons (ps_set (i := 15) sc_l_named_right.nd rfl (by first | exact .inl rfl | exact .inr rfl) (pe_ifExp (pt_val (pe_callB (isiK (K := K) rfl) rfl T.z_isinstance b_isinstance (pa_cons (pv 14) (pa_cons (pe_bltn (v := .ty "str") rfl T.z_str b_str rfl) pa_nil)))) (pe_dget2 (hu_of hr) (pv 4) (pv 14) (pv 14) ⟨rfl, rfl, rfl, rfl⟩) (pv 14))) (pss_cons (ps_set (i := 16) sc_l_named_right.nd rfl (by first | exact .inl rfl | exact .inr rfl) (pe_cal (ok_chance T) (hr.mono (by decide)) rfl T.chance (pa_cons (pe_ix (ixL (K := K) rfl) (pv 13) pe_int (fun _ _ => rfl)) (pa_cons (pe_cal (ok_l_songs_in T) (hr.mono (by decide)) rfl T.l_songs_in (pa_cons (pv 1) pa_nil)) (pa_cons (pv 2) (pa_cons (pv 14) pa_nil)))))) (pss_cons (ps_if (pt_cmpR (op_neP (K := K) rfl (by exact hr.units)) (pe_cal (ok_chance T) (hr.mono (by decide)) rfl T.chance (pa_cons (pe_ix (ixL (K := K) rfl) (pv 13) (pe_un un_neg pe_int) (fun _ _ => rfl)) (pa_cons (pe_cal (ok_l_songs_in T) (hr.mono (by decide)) rfl T.l_songs_in (pa_cons (pv 1) pa_nil)) (pa_cons (pv 2) (pa_cons (pv 14) pa_nil))))) (pv 16) (nomark _)) (pss_one (ps_ret pe_bl)) pss_nil) (pss_one (ps_if (pt_cmpR (op_neP (K := K) rfl (by exact hr.units)) (pe_cal (ok_chance T) (hr.mono (by decide)) rfl T.chance (pa_cons (pe_cal (ok_l_rule_of T) (hr.mono (by decide)) rfl T.l_rule_of (pa_cons (pv 5) pa_nil)) (pa_cons (pe_cal (ok_l_songs_in T) (hr.mono (by decide)) rfl T.l_songs_in (pa_cons (pv 5) pa_nil)) (pa_cons (pv 7) (pa_cons (pv 15) pa_nil))))) (pv 16) (nomark _)) (pss_one (ps_ret pe_bl)) pss_nil)))))) (pss_one (ps_ret pe_bl)))))))))))), ?_⟩
  refine ⟨_, rfl, _, rfl, c, _, rfl, DGet.k (k := .inr "numbers") h1, nd, _, rfl, h4, q, (DI (ks nu)).length, rfl, DR, by omega, fun np ys0 H1 sA hnpn hnp hyl hynd hyok => ?_⟩
  have CA1 := CA.sm sA
  have St1 := St.mono sA.tk
  refine ⟨np, ys0, rfl, SqL.of hnp, by omega, fun fr fp pf sf hfp => ?_⟩
  have s1 := (sms H1).up hfp (o := .lst (fr.map V.str))
  have hfr : (upd H1 fp (.lst (fr.map V.str))) fp = some (.lst (fr.map V.str)) := upd_same
  generalize hH2 : upd H1 fp (.lst (fr.map V.str)) = H2 at *
  have flen : fr.length = nu.length := by rw [pf.length_eq, hyl, nlen]
  have fnd : fr.Nodup := pf.nodup_iff.mpr hynd
  have fok : ∀ y ∈ fr, NameOk y := fun y hy => hyok y (pf.mem_iff.mp hy)
  -- names
  have CA2 := CA1.mono s1
  obtain ⟨wa', sa', nd', k1, k2, k3, k4, _, _⟩ := id CA2
  refine ⟨_, rfl, c, _, rfl, DGet.k (k := .inr "numbers") k1, nd', _, nu.map (·.1), rfl, .inl k4, by rw [DI_keys, ks_keys]; simp, by rw [List.length_map]; omega, fun ys p2 py sy hp2 => ⟨_, rfl, p2, fp, ys, fr, rfl, SqL.of upd_same, SqL.of ((sms H2).up hp2 _ _ hfr), ?_, ?_, fun H3 p3 ts sB hp3 hl3 pts => ?_⟩⟩
  · rw [py.length_eq, List.length_map, flen]
  · rw [py.length_eq, List.length_map]; omega
  have eys : ys = so.map (·.1) := sorted_uniq (py.trans (of.perm.map _).symm) sy of.srt
  have s2 := ((sms H2).up hp2 (o := .lst (ys.map V.str))).trans sB
  have ysnd : ys.Nodup := by rw [eys]; exact sk.nd
  have yslen : ys.length = fr.length := by rw [py.length_eq, List.length_map, flen]
  refine ⟨p3, ts, DN (ys.zip fr), rfl, SqL.of hl3, Paired.mapP pts fun _ _ z => SqT.of z, fun nmd hnmd => ?_⟩
  have zkeys : (ys.zip fr).map (·.1) = so.map (·.1) := by
    have : (ys.zip fr).map Prod.fst = ys := List.map_fst_zip (by omega)
    rw [← eys]
    exact this
  have emerge : mergeK [] (DN (ys.zip fr)) = DN (ys.zip fr) := by
    rw [mergeK_new _ [] (by
      rw [List.nil_append]
      have : (DN (ys.zip fr)).map (·.1) = ((ys.zip fr).map (·.1)).map Sum.inr := by simp [DN]
      rw [this, zkeys, ← eys]
      exact nodup_inr ysnd)]
    rfl
  rw [emerge]
  have s3 := s2.up hnmd (o := .dK (DN (ys.zip fr)))
  have hnm : (upd H3 nmd (.dK (DN (ys.zip fr)))) nmd = some (.dK (DN (ys.zip fr))) := upd_same
  generalize hH4 : upd H3 nmd (.dK (DN (ys.zip fr))) = H4 at *
  generalize hren : renZ (ys.zip fr) = ren at *
  have emap : (so.map (·.1)).map ren = fr := by rw [← hren, ← eys]; exact renZ_zip ysnd yslen
  have injS : InjOn ren (so.map (·.1)) := map_injOn (by rw [emap]; exact fnd)
  have injN : InjOn ren (nu.map (·.1)) := fun a ha b hb e => injS a ((of.perm.map _).mem_iff.mpr ha) b ((of.perm.map _).mem_iff.mpr hb) e
  have nmN : ∀ k ∈ nu.map (·.1), NameOk (ren k) := fun k hk => fok _ (by rw [← emap]; exact List.mem_map.mpr ⟨k, (of.perm.map _).mem_iff.mpr hk, rfl⟩)
  have nk' := ren_ok injN nmN nk
  have of' : SoOf (nu.map (renP ren)) (so.map (renP ren)) := ⟨of.perm.map _, by
    have : (so.map (renP ren)).map (·.1) = fr := by
      rw [← emap, List.map_map, List.map_map]
      rfl
    rw [this]
    exact sf⟩
  -- far
  have CA4 := CA2.mono s3
  obtain ⟨wa4, sa4, nd4, m1, m2, m3, m4, m5, m6⟩ := id CA4
  refine ⟨_, rfl, c, _, rfl, m1, fun H5 p5 ts5 kk5 hp5 hts5 npts5 hl5 pts5 => ?_⟩
  have s5 : Same H4 H5 := kk5
  refine ⟨p5, ts5, _, rfl, SqL.of hl5, Paired.mapP pts5 fun _ _ z => SqT.of z, fun far hfar => ?_⟩
  have emc : mergeK [] (caseK wa4 sa4 nd4 ru.n) = caseK wa4 sa4 nd4 ru.n := rfl
  rw [emc]
  have s6 := s5.up hfar (o := .dK (caseK wa4 sa4 nd4 ru.n))
  have hf6 : (upd H5 far (.dK (caseK wa4 sa4 nd4 ru.n))) far = some (.dK (caseK wa4 sa4 nd4 ru.n)) := upd_same
  have hfar1 : H1 far = none := (s1.trans (s3.trans s5)).free hfar
  generalize hH6 : upd H5 far (.dK (caseK wa4 sa4 nd4 ru.n)) = H6 at *
  have hnm6 := s6 _ _ hnm
  have n1 := s6 _ _ m1
  have n4 := s6 _ _ m4
  have zlen : (ys.zip fr).length = nu.length := by rw [List.length_zip]; omega
  have nnd : nmd ≠ nd4 := ne_of hnm6 n4 (by
    intro z
    have z := HO.dK.inj z
    have l1 := nk.l1
    cases hys : ys.zip fr with
    | nil =>
      rw [hys] at zlen
      exact absurd zlen (by simp only [List.length_nil]; omega)
    | cons a b =>
      rw [hys] at z
      cases hnu : nu with
      | nil => rw [hnu] at l1; simp at l1
      | cons u w =>
        rw [hnu] at z
        simp [DN, DI, ks] at z)
  have ncn : c ≠ nd4 := ne_of n1 n4 (by
    intro z
    have z := HO.dK.inj z
    cases nu with
    | nil => simp [caseK, DI, ks] at z
    | cons c d => simp [caseK, DI, ks] at z)
  -- the numbers under other names
  refine ⟨nd4, _, n4, trivial, fun ob => ?_⟩
  have n1' : (upd H6 nd4 (.frz ob (.dK (DI (ks nu))))) c = some (.dK (caseK wa4 sa4 nd4 ru.n)) := by rw [upd_ne ncn]; exact n1
  refine ⟨_, rfl, c, _, rfl, DGet.k (k := .inr "numbers") n1', nd4, ob, rfl, .inl ⟨_, upd_same, fun D hD => ?_⟩⟩
  obtain ⟨nDn, hD0⟩ := lock_free hD
  refine lc_go rel_same walk_keys hD (sms _) (fun i => (nu.map (renP ren)).take i) PrAt rfl (fun G s => s _ _ upd_same) ?_ ?_
  · rintro i x G1 G2 hi I ⟨rfl, k, v, e, rfl⟩
    obtain ⟨n, e1, rfl⟩ := DI_at e
    have e1' := e1
    rw [List.getElem?_map] at e1
    obtain ⟨p, hp, e3⟩ := Option.map_eq_some_iff.mp e1
    cases e3
    have lk := look_mem ndk (List.mem_of_getElem? e1')
    have hpk : p.1 ∈ (ys.zip fr).map (·.1) := by rw [zkeys]; exact (of.perm.map _).mem_iff.mpr (List.mem_map.mpr ⟨p, List.mem_of_getElem? hp, rfl⟩)
    have hg := dget_dn (I.rl _ _ (show (upd H6 nd4 (.frz ob (.dK (DI (ks nu))))) nmd = _ from by rw [upd_ne nnd]; exact hnm6)) hpk
    rw [hren] at hg
    refine ⟨rfl, _, rfl, _, rfl, nmd, _, rfl, hg, _, rfl, c, _, rfl, DGet.k (k := .inr "numbers") (I.rl _ _ (by rw [upd_ne ncn]; exact n1)), _, rfl, nd4, _, rfl, DGet.at1f (I.rl _ _ upd_same) lk, by show 2 ≤ sizeLine; decide, fun p0 hp0 => ?_⟩
    have e5 : (nu.map (renP ren))[i]? = some (renP ren p) := by rw [List.getElem?_map, hp]; rfl
    exact I.step rel_same hD tkPr (by omega) ((sms _).up hp0) (take_snoc e5) ⟨p0, rfl, upd_same⟩
  intro us7 H7 h7 s7 p7
  rw [nlen, List.take_of_length_le (by rw [List.length_map]; exact Nat.le_refl _)] at p7
  have s8 : Same H6 (upd H7 nd4 (.dK (DI (ks nu)))) := unlock n4 s7
  have h7' : (upd H7 nd4 (.dK (DI (ks nu)))) D = some (.lst us7) := by rw [upd_ne nDn]; exact h7
  have k7 : Tk H7 (upd H7 nd4 (.dK (DI (ks nu)))) := Tk.at (s7 _ _ upd_same) (fun xs z => by cases z)
  refine ⟨s7 _ _ upd_same, ?_⟩
  generalize hH8 : upd H7 nd4 (.dK (DI (ks nu))) = H8 at *
  obtain ⟨ps, eps, pps⟩ := prs_split (Paired.mapP p7 fun _ _ z => tkPr k7 z)
  rw [eps] at h7'
  refine ⟨D, ps, DI (ks (nu.map (renP ren))), rfl, SqL.of h7', prs_dict pps, fun d hd => ?_⟩
  rw [DI_dict nk'.nd]
  have s9 := s8.up hd (o := .dK (DI (ks (nu.map (renP ren)))))
  have hd9 : (upd H8 d (.dK (DI (ks (nu.map (renP ren)))))) d = some (.dK (DI (ks (nu.map (renP ren))))) := upd_same
  have hd6 : H6 d = none := s8.free hd
  generalize hH9 : upd H8 d (.dK (DI (ks (nu.map (renP ren))))) = H9 at *
  have hf9 := s9 _ _ hf6
  refine ⟨_, rfl, far, _, rfl, DPut.k (k := .inr "numbers") hf9 (by show 4 < sizeLine; decide), ?_⟩
  have eput : putK (caseK wa4 sa4 nd4 ru.n) (.inr "numbers") (.ref d) = caseK wa4 sa4 d ru.n := rfl
  rw [eput]
  -- far is new since H1: what stood stands
  have s10 : Same H1 (upd H9 far (.dK (caseK wa4 sa4 d ru.n))) := (s1.trans (s3.trans (s6.trans s9))).new hfar1
  have ndf : d ≠ far := fun z => by rw [z] at hd6; rw [hd6] at hf6; cases hf6
  have hd10 : (upd H9 far (.dK (caseK wa4 sa4 d ru.n))) d = some (.dK (DI (ks (nu.map (renP ren))))) := by rw [upd_ne ndf]; exact hd9
  have hnf : nmd ≠ far := ne_of_none (s5 _ _ hnm) hfar
  have hnm10 : (upd H9 far (.dK (caseK wa4 sa4 d ru.n))) nmd = some (.dK (DN (ys.zip fr))) := by rw [upd_ne hnf]; exact s9 _ _ hnm6
  have hwf : wa4 ≠ far := ne_of_none (s5 _ _ m2) hfar
  have hsf : sa4 ≠ far := ne_of_none (s5 _ _ m3) hfar
  have CF10 : CaseAt (upd H9 far (.dK (caseK wa4 sa4 d ru.n))) q.d far ru (nu.map (renP ren)) := by
    have nq1 := sA.d2.ne hfar1
    have hd1 : H1 d = none := (s1.trans (s3.trans s6)).free hd6
    have nq2 := sA.d2.ne hd1
    exact ⟨wa4, sa4, d, upd_same, by rw [upd_ne hwf]; exact (s6.trans s9) _ _ m2, by rw [upd_ne hsf]; exact (s6.trans s9) _ _ m3, hd10, nq1.1, nq2.1⟩
  generalize hH10 : upd H9 far (.dK (caseK wa4 sa4 d ru.n)) = H10 at *
  have CA10 := CA1.mono s10
  have St10 := St1.mono s10.tk
  obtain ⟨xs, hx, px⟩ := id St10
  have el : xs.length = st.length := Paired.length px
  -- there
  refine ⟨_, rfl, t, rfl, ⟨_, SqT.of hx⟩, fun D1 hD1 => ?_⟩
  refine lc_go rel_same (walk_tup (xs := xs)) hD1 (sms _) (fun i => (st.map (renI ren)).take i) (fun H v it => ItAt H v it) rfl (fun G s => SqT.of (s _ _ hx)) ?_ ?_
  · rintro i x G1 G2 hi I ⟨rfl, e2⟩
    obtain ⟨it, hi2, hit⟩ := paired_at px e2
    refine ⟨rfl, _, rfl, by show 0 ≤ sizeLine; decide, fun p0 hp0 => ?_⟩
    have g1 := (sms G2).up hp0 (o := .tup [])
    have hit1 : ItAt _ x it := hit.mono (I.rl.trans g1).tk
    refine ⟨itD it, itD none, hit1.dp, (show ItAt _ (V.ref p0) none from ⟨p0, rfl, upd_same⟩).dp, itD_plain _, itD_plain _, by have := itD_depth it; omega, _, rfl, ?_⟩
    cases it with
    | none =>
      refine iteFe (by rw [itD_eqv]; rfl) ⟨by show 0 ≤ sizeLine; decide, fun p1 hp1 => ?_⟩
      exact I.step rel_same hD1 tkItAt (by omega) (g1.up hp1) (ren_snoc ren hi2) (show ItAt _ (V.ref p1) none from ⟨p1, rfl, upd_same⟩)
    | some kb =>
      obtain ⟨k, b⟩ := kb
      obtain ⟨a, rfl, ha⟩ := hit1
      have hg := dget_dn ((I.rl.trans g1) _ _ hnm10) (by rw [zkeys]; exact ok.kin k b (List.mem_of_getElem? hi2))
      rw [hren] at hg
      refine iteTe (by rw [itD_eqv]; rfl) ⟨_, rfl, _, rfl, a, _, _, _, rfl, rfl, SqT.of ha, rfl, nmd, _, rfl, hg, _, rfl, a, _, _, _, rfl, rfl, SqT.of ha, rfl, by show 2 ≤ sizeLine; decide, fun p1 hp1 => ?_⟩
      exact I.step rel_same hD1 tkItAt (by omega) (g1.up hp1) (ren_snoc ren hi2) (show ItAt _ (V.ref p1) (some (ren k, b)) from ⟨p1, rfl, upd_same⟩)
  intro us11 H11 h11 s11 p11
  rw [el, List.take_of_length_le (by rw [List.length_map]; exact Nat.le_refl _)] at p11
  refine ⟨D1, us11, rfl, .inl ⟨SqL.of h11, fun th hth => ?_⟩⟩
  have s12 := s11.up hth (o := .tup us11)
  have Th : StAt (upd H11 th (.tup us11)) th (st.map (renI ren)) := ⟨us11, upd_same, Paired.mapP p11 fun _ _ z => z.mono (Tk.new hth)⟩
  generalize hH12 : upd H11 th (.tup us11) = H12 at *
  have CA12 := CA10.mono s12
  obtain ⟨wb, sb, nb, b1, b2, b3, b4, _, _⟩ := id CA12
  -- doubled
  refine ⟨by show 2 ≤ sizeLine; decide, fun tw htw => ⟨tw, rfl, ⟨_, SqT.of upd_same⟩, fun dl hdl => ?_⟩⟩
  have s13 := (sms H12).up htw (o := .tup [.str "weights", .str "skipped"])
  have htw' : (upd H12 tw (.tup [.str "weights", .str "skipped"])) tw = some (.tup [.str "weights", .str "skipped"]) := upd_same
  generalize hH13 : upd H12 tw (.tup [.str "weights", .str "skipped"]) = H13 at *
  refine lc_go rel_same (walk_tup (xs := [.str "weights", .str "skipped"])) hdl (sms _) (fun i => [ru.w.map (2 * ·), ru.s.map (2 * ·)].take i) TupI rfl (fun G s => SqT.of (s _ _ htw')) ?_ ?_
  · rintro i x G1 G2 hi I ⟨rfl, e2⟩
    have key : ∃ (wd : Str) (ad : Addr) (l : List Int), x = .str wd ∧ H12 ad = some (.tup (l.map V.int)) ∧ l.length ≤ 4 ∧ (∀ y ∈ l, 0 ≤ y ∧ y ≤ 9) ∧ valV (caseK wb sb nb ru.n) (.inr wd) = some (.ref ad) ∧ [ru.w.map (2 * ·), ru.s.map (2 * ·)][i]? = some (l.map (2 * ·)) := by
      match i, hi, e2 with
      | 0, _, e2 => exact ⟨"weights", wb, ru.w, (Option.some.inj e2).symm, b2, by omega, rk.wp, rfl, rfl⟩
      | 1, _, e2 => exact ⟨"skipped", sb, ru.s, (Option.some.inj e2).symm, b3, by omega, rk.sp, rfl, rfl⟩
      | i + 2, hi, _ => exact absurd hi (by show ¬ i + 2 < 2; omega)
    obtain ⟨wd, ad, l, rfl, had, ll4, lok, hval, hacc⟩ := key
    have had2 := (s13.trans I.rl) _ _ had
    have hg : DGet G2 c (kV (.inr wd)) (some (.ref ad)) := by rw [← hval]; exact DGet.k ((s13.trans I.rl) _ _ b1)
    refine ⟨rfl, _, rfl, _, rfl, c, _, rfl, hg, ad, rfl, ⟨_, SqT.of had2⟩, fun D3 hD3 => ?_⟩
    refine lc_go rel_same (walk_tup (xs := l.map V.int)) hD3 (sms _) (fun j => (l.map (2 * ·)).take j) (fun _ v n => v = V.int n) rfl (fun G s => SqT.of (s _ _ had2)) ?_ ?_
    · rintro j y G3 G4 hj J ⟨rfl, e3⟩
      rw [List.getElem?_map] at e3
      obtain ⟨n, hn, rfl⟩ := Option.map_eq_some_iff.mp e3
      have hn9 := lok n (List.mem_of_getElem? hn)
      rw [List.length_map] at hj
      have e5 : (l.map (2 * ·))[j]? = some (2 * n) := by rw [List.getElem?_map, hn]; rfl
      exact ⟨rfl, _, rfl, _, _, rfl, rfl, .inl ⟨by decide, by decide⟩, J.step rel_same hD3 tkInt (by omega) (sms _) (take_snoc e5) rfl⟩
    intro us14 G5 g5 t5 p5
    rw [List.take_of_length_le (by simp)] at p5
    have e5 := paired_eq p5
    refine ⟨D3, us14, rfl, .inl ⟨SqL.of g5, fun tu htu => ?_⟩⟩
    have hi2 : i < 1000 := Nat.lt_trans hi (by show 2 < 1000; decide)
    exact I.step rel_same hdl tkTupI hi2 (t5.up htu) (take_snoc hacc) ⟨tu, rfl, by rw [upd_same, e5]⟩
  intro us15 H15 h15 s15 p15
  have p15 : Paired (TupI H15) us15 [ru.w.map (2 * ·), ru.s.map (2 * ·)] := p15
  cases p15 with
  | @cons v1 _ us16 _ hh1 rest =>
  cases rest with
  | @cons v2 _ us17 _ hh2 rest =>
  cases rest
  obtain ⟨aw, rfl, haw⟩ := hh1
  obtain ⟨as', rfl, has⟩ := hh2
  have s1315 := s13.trans s15
  -- is it small?
  refine ⟨_, rfl, dl, _, _, .ref aw, rfl, rfl, SqL.of h15, atI_nat (j := 0) rfl, _, rfl, dl, _, _, .ref as', rfl, rfl, SqL.of h15, atI_nat (j := 1) rfl, ?_⟩
  refine catA_of haw has (hz2 _ (by rw [List.length_map, List.length_map, List.length_map, List.length_map]; omega)) fun c1 H16 s16 hc1 => ?_
  refine ⟨by show 1 ≤ sizeLine; decide, fun zt hzt => ?_⟩
  refine catA_of ((sms H16).up hzt _ _ hc1) upd_same (hz2 _ (by rw [List.length_append, List.length_map, List.length_map, List.length_map, List.length_map]; show _ + 1 ≤ 200; omega)) fun c2 H17 s17 hc2 => ?_
  have s1617 := (s16.trans ((sms H16).up hzt (o := .tup [.int 0]))).trans s17
  obtain ⟨w0, wr, ew⟩ : ∃ w0 wr, ru.w = w0 :: wr := by
    cases hw : ru.w with
    | nil => rw [hw] at rw1; simp at rw1
    | cons a b => exact ⟨a, b, rfl⟩
  have ec2 : (List.map V.int (ru.w.map (2 * ·)) ++ List.map V.int (ru.s.map (2 * ·)) ++ [V.int 0]) = ((2 * w0) :: (wr.map (2 * ·) ++ ru.s.map (2 * ·) ++ [0])).map V.int := by rw [ew]; simp
  rw [ec2] at hc2
  refine ⟨c2, _, _, rfl, SqT.of hc2, _, _, rfl, rfl, ?_⟩
  generalize hmx : PySem.W.maxOf (2 * w0) (wr.map (2 * ·) ++ ru.s.map (2 * ·) ++ [0]) = mx
  have hmx2 := le_maxOf (wr.map (2 * ·) ++ ru.s.map (2 * ·) ++ [0]) (2 * w0)
  rw [hmx] at hmx2
  have s12end := s1315.trans s1617
  have CA17 := CA12.mono s12end
  -- rules
  refine ⟨_, rfl, q.d, c, ru, nu, rfl, CA17, rk, fun r0 H18 s18 R0 => ⟨by show 1 ≤ sizeLine; decide, fun rl hrln => ?_⟩⟩
  have s19 := s18.up hrln (o := .lst [.ref r0])
  have hrl : (upd H18 rl (.lst [.ref r0])) rl = some (.lst [.ref r0]) := upd_same
  have R0z := R0.mono ((sms H18).up hrln (o := .lst [.ref r0]))
  have s10z := (s12.trans s12end).trans s19
  have hrl17 : H17 rl = none := s18.free hrln
  generalize hH19 : upd H18 rl (.lst [.ref r0]) = H19 at *
  refine ⟨_, rfl, _, rfl, ?_⟩
  by_cases hsm : mx < 10
  · refine iteTe (decide_eq_true hsm) ?_
    have hdl19 := ((s1617.trans s19)) _ _ h15
    have haw19 := ((s1617.trans s19)) _ _ haw
    have has19 := ((s1617.trans s19)) _ _ has
    have c1z := (s12end.trans s19) _ _ b1
    refine ⟨_, rfl, .inl ⟨rfl, _, SqL.of hrl⟩, _, rfl, dl, _, _, .ref aw, rfl, rfl, SqL.of hdl19, atI_nat (j := 0) rfl, _, rfl, dl, _, _, .ref as', rfl, rfl, SqL.of hdl19, atI_nat (j := 1) rfl, _, rfl, c, _, rfl, DGet.k (k := .inr "spread") c1z, ?_⟩
    have rkd : RuOk (dbl ru) := dbl_ok rk (fun x hx => by
      rw [ew, List.map_cons] at hx
      rcases List.mem_cons.mp hx with e | e
      · rw [e]; have := hmx2.1; omega
      · have := hmx2.2 x (by simp [e]); omega) (fun x hx => by
      have := hmx2.2 x (List.mem_append_left _ (List.mem_append_right _ hx)); omega)
    intro rL dxL hrL hdxL neL
    have sx : Same H19 (upd (upd H19 dxL (.own rL)) rL (.ins (He.ga K "Rule") dxL [])) := fun b o e => by
      rw [upd_ne (ne_of_none e hrL), upd_ne (ne_of_none e hdxL)]
      exact e
    refine ⟨rL, dxL, aw, as', dbl ru, rfl, upd_same, sx _ _ haw19, sx _ _ has19, rkd, fun H20 k20 RL => ⟨rfl, ?_⟩⟩
    have s20 : Same H19 H20 := fun b o e => k20 b o (sx _ _ e) (ne_of_none e hrL)
    have hrl20 := s20 _ _ hrl
    refine ⟨rl, [.ref r0], _, rfl, rfl, hrl20, by show 1 < sizeLine; decide, ?_⟩
    have nrl : ∀ {b o}, H17 b = some o → b ≠ rl := fun e => ne_of_none e hrl17
    -- rl alone changed
    have up1 : ∀ b o, H20 b = some o → b ≠ rl → (upd H20 rl (.lst ([.ref r0] ++ [.ref rL]))) b = some o := fun b o e nb => by rw [upd_ne nb]; exact e
    have s17z : Same H17 (upd H20 rl (.lst ([.ref r0] ++ [.ref rL]))) := (s19.trans s20).new hrl17
    have tk20 : Tk H20 (upd H20 rl (.lst ([.ref r0] ++ [.ref rL]))) := Tk.at hrl20 (fun xs z => by cases z)
    have mvR : ∀ {r : Addr} {ru : Ru}, RuAt K H20 r ru → RuAt K (upd H20 rl (.lst ([.ref r0] ++ [.ref rL]))) r ru := fun ⟨dx, wa, sa, e1, e2, e3⟩ => ⟨dx, wa, sa, up1 _ _ e1 (ne_of e1 hrl20 (by intro z; cases z)), tk20 _ _ e2, tk20 _ _ e3⟩
    have R0z2 := mvR (R0z.mono s20)
    have RLz := mvR RL
    have s10f := (s12.trans s12end).trans s17z
    have hrl := (upd_same : (upd H20 rl (.lst ([.ref r0] ++ [.ref rL]))) rl = some (.lst ([.ref r0] ++ [.ref rL])))
    have sZ := s10.trans s10f
    have CAz := CA17.mono s17z
    have CFz := CF10.mono s10f
    have Thz := Th.mono (s12end.trans s17z).tk
    have hnmz := s10f _ _ hnm10
    have okL : StOk (dbl ru) so st := ⟨by show st.length + 1 = (ru.w.map (2 * ·)).length; rw [List.length_map]; exact ok.len, ok.kin, ok.few⟩
    have alk := alike_dbl rk sk ok
    have rkL := rkd
    generalize hHz : upd H20 rl (.lst ([.ref r0] ++ [.ref rL])) = Hz at *
    have R0z := R0z2

    -- all pairs of chances are equal
    refine ⟨_, rfl, rl, _, _, .ref r0, rfl, rfl, SqL.of hrl, atI_nat (j := 0) rfl, ?_⟩
    refine ⟨_, rfl, q.d, c, ru, nu, rfl, CAz, nk, fun o1 so1 G1 g1 of1 S1 => ?_⟩
    obtain rfl : so1 = so := of1.uniq nk.nd of
    have Arg1 : Arg K G1 r0 o1 t ru so1 st := ⟨R0z.mono g1, S1, St1.mono (sZ.trans g1).tk, rk, sk, ok⟩
    refine ⟨_, rfl, r0, o1, t, ru, so1, st, rfl, Arg1, fun pl G2 g2 hpln hpl => ⟨pl, rfl, ⟨_, SqL.of hpl⟩, ?_⟩⟩
    have g12 := g1.trans g2
    refine for_it (walk_list (xs := (pls ru so1 st).map kV)) (fun i σ G => ∃ v14 v15 v16, σ = [some (.ref q.d), some (.ref c), some (.ref t), some (.ref fp), some (.ref nmd), some (.ref far), none, some (.ref th), none, some (.ref dl), none, none, some (.bl (decide (mx < 10))), some (.ref rl), v14, v15, v16] ∧ Same G2 G) ⟨none, none, none, rfl, sms _⟩ (fun i σ G _ ⟨_, _, _, _, e⟩ => SqL.of (e _ _ hpl)) ?_ ?_
    · rintro i x σ G3 G' hi ⟨v14, v15, v16, rfl, g3⟩ ⟨rfl, e2⟩
      rw [List.getElem?_map] at e2
      obtain ⟨k, hk, rfl⟩ := Option.map_eq_some_iff.mp e2
      obtain ⟨n, lk⟩ := look_pls (List.mem_of_getElem? hk)
      have g13 := g12.trans g3
      have hkin : ∀ z, k = .inr z → z ∈ so1.map (·.1) := fun z e => told_in (ru := ru) (st := st) z (e ▸ List.mem_of_getElem? hk)
      cases k with
      | inl a =>
        refine ⟨_, rfl, _, _, _, _, false, rfl, .ty "str", .base (.int a), kit_ty (by decide +kernel : kitB "int" "str" = some false), _, rfl, iteF ⟨_, rfl, ?_⟩⟩

        -- due
        refine ⟨_, rfl, rl, _, _, .ref r0, rfl, rfl, SqL.of (g13 _ _ hrl), atI_nat (j := 0) rfl, ?_⟩
        refine ⟨_, rfl, q.d, c, ru, nu, rfl, CAz.mono g13, nk, fun o2 so2 G4 g4 of2 S2 => ?_⟩
        obtain rfl : so2 = so1 := of2.uniq nk.nd of1
        have g14 := g13.trans g4
        refine ⟨_, rfl, _, rfl, r0, o2, t, ru, so2, st, (.inl a), n, rfl, ⟨R0z.mono g14, S2, St1.mono (sZ.trans g14).tk, rk, sk, ok⟩, lk, fun p1 G5 g5 hp1 => ?_⟩
        have g15 := g14.trans g5
        -- the last rule
        refine ⟨_, rfl, _, rfl, ?_⟩
        refine ⟨rl, _, _, .ref rL, rfl, rfl, SqL.of (g15 _ _ hrl), atI_last _ _, ?_⟩
        refine ⟨_, rfl, q.d, c, ru, nu, rfl, CAz.mono g15, nk, fun o3 so3 G6 g6 of3 S3 => ?_⟩
        obtain rfl : so3 = so2 := of3.uniq nk.nd of2
        have g16 := g15.trans g6
        obtain ⟨n2, lk2, ech⟩ := alk (.inl a) n lk
        refine ⟨_, rfl, _, rfl, rL, o3, t, (dbl ru), so3, st, (.inl a), n2, rfl, ⟨RLz.mono g16, S3, St1.mono (sZ.trans g16).tk, rkL, sk, okL⟩, lk2, fun p2 G7 g7 hp2 => ?_⟩
        rw [ech] at hp2
        have g17 := g16.trans g7
        have g57 := g6.trans g7
        refine ⟨_, rfl, _, _, .tup (SqT.of hp2) (.cons (.int _) (.cons (.int _) .nil)), .tup (SqT.of (g57 _ _ hp1)) (.cons (.int _) (.cons (.int _) .nil)), by simp [PyData.plain, PyData.plainAll], by simp [PyData.plain, PyData.plainAll], by simp [PyData.depth, PyData.depthAll], _, rfl, iteFe (by rw [eqv_int2]; rfl) ?_⟩
        -- the case of other names
        refine ⟨_, rfl, q.d, far, ru, nu.map (renP ren), rfl, CFz.mono g17, rk, fun r4 G8 g8 R4 => ?_⟩
        have g18 := g17.trans g8
        refine ⟨_, rfl, q.d, far, ru, nu.map (renP ren), rfl, CFz.mono g18, nk', fun o4 so4 G9 g9 of4 S4 => ?_⟩
        obtain rfl : so4 = so3.map (renP ren) := of4.uniq nk'.nd of'
        have g19 := g18.trans g9
        obtain ⟨lk3, ech3⟩ := ren_chance (ru := ru) injS ok.kin lk
        refine ⟨_, rfl, _, rfl, r4, o4, th, ru, _, _, renK ren (.inl a), n, (by first | rfl | (rw [hren]; rfl)), ⟨R4.mono g9, S4, Thz.mono g19.tk, rk, of'.ok nk', ren_stok injS sk (of'.ok nk') ok⟩, lk3, fun p3 G10 g10 hp3 => ?_⟩
        rw [ech3] at hp3
        refine ⟨_, rfl, _, _, .tup (SqT.of hp3) (.cons (.int _) (.cons (.int _) .nil)), .tup (SqT.of ((((g57.trans g8).trans g9).trans g10) _ _ hp1)) (.cons (.int _) (.cons (.int _) .nil)), by simp [PyData.plain, PyData.plainAll], by simp [PyData.plain, PyData.plainAll], by simp [PyData.depth, PyData.depthAll], _, rfl, iteFe (by rw [eqv_int2]; rfl) ?_⟩
        exact ⟨_, _, _, rfl, ((((g3.trans g4).trans g5).trans g57).trans g8).trans (g9.trans g10)⟩

      | inr z =>
        refine ⟨_, rfl, _, _, _, _, true, rfl, .ty "str", .base (.str z), kit_ty (by decide +kernel : kitB "str" "str" = some true), _, rfl, iteT ⟨_, rfl, nmd, rfl, .inl ⟨_, .inl (g13 _ _ hnmz)⟩, _, rfl, _, rfl, _, dget_dn (g13 _ _ hnmz) (by rw [zkeys]; exact hkin z rfl), ?_⟩⟩

        -- due
        refine ⟨_, rfl, rl, _, _, .ref r0, rfl, rfl, SqL.of (g13 _ _ hrl), atI_nat (j := 0) rfl, ?_⟩
        refine ⟨_, rfl, q.d, c, ru, nu, rfl, CAz.mono g13, nk, fun o2 so2 G4 g4 of2 S2 => ?_⟩
        obtain rfl : so2 = so1 := of2.uniq nk.nd of1
        have g14 := g13.trans g4
        refine ⟨_, rfl, _, rfl, r0, o2, t, ru, so2, st, (.inr z), n, rfl, ⟨R0z.mono g14, S2, St1.mono (sZ.trans g14).tk, rk, sk, ok⟩, lk, fun p1 G5 g5 hp1 => ?_⟩
        have g15 := g14.trans g5
        -- the last rule
        refine ⟨_, rfl, _, rfl, ?_⟩
        refine ⟨rl, _, _, .ref rL, rfl, rfl, SqL.of (g15 _ _ hrl), atI_last _ _, ?_⟩
        refine ⟨_, rfl, q.d, c, ru, nu, rfl, CAz.mono g15, nk, fun o3 so3 G6 g6 of3 S3 => ?_⟩
        obtain rfl : so3 = so2 := of3.uniq nk.nd of2
        have g16 := g15.trans g6
        obtain ⟨n2, lk2, ech⟩ := alk (.inr z) n lk
        refine ⟨_, rfl, _, rfl, rL, o3, t, (dbl ru), so3, st, (.inr z), n2, rfl, ⟨RLz.mono g16, S3, St1.mono (sZ.trans g16).tk, rkL, sk, okL⟩, lk2, fun p2 G7 g7 hp2 => ?_⟩
        rw [ech] at hp2
        have g17 := g16.trans g7
        have g57 := g6.trans g7
        refine ⟨_, rfl, _, _, .tup (SqT.of hp2) (.cons (.int _) (.cons (.int _) .nil)), .tup (SqT.of (g57 _ _ hp1)) (.cons (.int _) (.cons (.int _) .nil)), by simp [PyData.plain, PyData.plainAll], by simp [PyData.plain, PyData.plainAll], by simp [PyData.depth, PyData.depthAll], _, rfl, iteFe (by rw [eqv_int2]; rfl) ?_⟩
        -- the case of other names
        refine ⟨_, rfl, q.d, far, ru, nu.map (renP ren), rfl, CFz.mono g17, rk, fun r4 G8 g8 R4 => ?_⟩
        have g18 := g17.trans g8
        refine ⟨_, rfl, q.d, far, ru, nu.map (renP ren), rfl, CFz.mono g18, nk', fun o4 so4 G9 g9 of4 S4 => ?_⟩
        obtain rfl : so4 = so3.map (renP ren) := of4.uniq nk'.nd of'
        have g19 := g18.trans g9
        obtain ⟨lk3, ech3⟩ := ren_chance (ru := ru) injS ok.kin lk
        refine ⟨_, rfl, _, rfl, r4, o4, th, ru, _, _, renK ren (.inr z), n, (by first | rfl | (rw [hren]; rfl)), ⟨R4.mono g9, S4, Thz.mono g19.tk, rk, of'.ok nk', ren_stok injS sk (of'.ok nk') ok⟩, lk3, fun p3 G10 g10 hp3 => ?_⟩
        rw [ech3] at hp3
        refine ⟨_, rfl, _, _, .tup (SqT.of hp3) (.cons (.int _) (.cons (.int _) .nil)), .tup (SqT.of ((((g57.trans g8).trans g9).trans g10) _ _ hp1)) (.cons (.int _) (.cons (.int _) .nil)), by simp [PyData.plain, PyData.plainAll], by simp [PyData.plain, PyData.plainAll], by simp [PyData.depth, PyData.depthAll], _, rfl, iteFe (by rw [eqv_int2]; rfl) ?_⟩
        exact ⟨_, _, _, rfl, ((((g3.trans g4).trans g5).trans g57).trans g8).trans (g9.trans g10)⟩
    · rintro σ G ⟨v14, v15, v16, rfl, g3⟩
      exact h _ (sA.same ((sZ.trans g12).trans g3))

  · refine iteFe (decide_eq_false hsm) ?_
    have sZ := s10.trans s10z
    have CAz := CA17.mono s19
    have CFz := CF10.mono s10z
    have Thz := Th.mono (s12end.trans s19).tk
    have hnmz := s10z _ _ hnm10
    have alk := alike_self ru so st
    have okL := ok
    have rkL := rk
    have RLz := R0z

    -- all pairs of chances are equal
    refine ⟨_, rfl, rl, _, _, .ref r0, rfl, rfl, SqL.of hrl, atI_nat (j := 0) rfl, ?_⟩
    refine ⟨_, rfl, q.d, c, ru, nu, rfl, CAz, nk, fun o1 so1 G1 g1 of1 S1 => ?_⟩
    obtain rfl : so1 = so := of1.uniq nk.nd of
    have Arg1 : Arg K G1 r0 o1 t ru so1 st := ⟨R0z.mono g1, S1, St1.mono (sZ.trans g1).tk, rk, sk, ok⟩
    refine ⟨_, rfl, r0, o1, t, ru, so1, st, rfl, Arg1, fun pl G2 g2 hpln hpl => ⟨pl, rfl, ⟨_, SqL.of hpl⟩, ?_⟩⟩
    have g12 := g1.trans g2
    refine for_it (walk_list (xs := (pls ru so1 st).map kV)) (fun i σ G => ∃ v14 v15 v16, σ = [some (.ref q.d), some (.ref c), some (.ref t), some (.ref fp), some (.ref nmd), some (.ref far), none, some (.ref th), none, some (.ref dl), none, none, some (.bl (decide (mx < 10))), some (.ref rl), v14, v15, v16] ∧ Same G2 G) ⟨none, none, none, rfl, sms _⟩ (fun i σ G _ ⟨_, _, _, _, e⟩ => SqL.of (e _ _ hpl)) ?_ ?_
    · rintro i x σ G3 G' hi ⟨v14, v15, v16, rfl, g3⟩ ⟨rfl, e2⟩
      rw [List.getElem?_map] at e2
      obtain ⟨k, hk, rfl⟩ := Option.map_eq_some_iff.mp e2
      obtain ⟨n, lk⟩ := look_pls (List.mem_of_getElem? hk)
      have g13 := g12.trans g3
      have hkin : ∀ z, k = .inr z → z ∈ so1.map (·.1) := fun z e => told_in (ru := ru) (st := st) z (e ▸ List.mem_of_getElem? hk)
      cases k with
      | inl a =>
        refine ⟨_, rfl, _, _, _, _, false, rfl, .ty "str", .base (.int a), kit_ty (by decide +kernel : kitB "int" "str" = some false), _, rfl, iteF ⟨_, rfl, ?_⟩⟩

        -- due
        refine ⟨_, rfl, rl, _, _, .ref r0, rfl, rfl, SqL.of (g13 _ _ hrl), atI_nat (j := 0) rfl, ?_⟩
        refine ⟨_, rfl, q.d, c, ru, nu, rfl, CAz.mono g13, nk, fun o2 so2 G4 g4 of2 S2 => ?_⟩
        obtain rfl : so2 = so1 := of2.uniq nk.nd of1
        have g14 := g13.trans g4
        refine ⟨_, rfl, _, rfl, r0, o2, t, ru, so2, st, (.inl a), n, rfl, ⟨R0z.mono g14, S2, St1.mono (sZ.trans g14).tk, rk, sk, ok⟩, lk, fun p1 G5 g5 hp1 => ?_⟩
        have g15 := g14.trans g5
        -- the last rule
        refine ⟨_, rfl, _, rfl, ?_⟩
        refine ⟨rl, _, _, .ref r0, rfl, rfl, SqL.of (g15 _ _ hrl), atI_last [] _, ?_⟩
        refine ⟨_, rfl, q.d, c, ru, nu, rfl, CAz.mono g15, nk, fun o3 so3 G6 g6 of3 S3 => ?_⟩
        obtain rfl : so3 = so2 := of3.uniq nk.nd of2
        have g16 := g15.trans g6
        obtain ⟨n2, lk2, ech⟩ := alk (.inl a) n lk
        refine ⟨_, rfl, _, rfl, r0, o3, t, ru, so3, st, (.inl a), n2, rfl, ⟨RLz.mono g16, S3, St1.mono (sZ.trans g16).tk, rkL, sk, okL⟩, lk2, fun p2 G7 g7 hp2 => ?_⟩
        rw [ech] at hp2
        have g17 := g16.trans g7
        have g57 := g6.trans g7
        refine ⟨_, rfl, _, _, .tup (SqT.of hp2) (.cons (.int _) (.cons (.int _) .nil)), .tup (SqT.of (g57 _ _ hp1)) (.cons (.int _) (.cons (.int _) .nil)), by simp [PyData.plain, PyData.plainAll], by simp [PyData.plain, PyData.plainAll], by simp [PyData.depth, PyData.depthAll], _, rfl, iteFe (by rw [eqv_int2]; rfl) ?_⟩
        -- the case of other names
        refine ⟨_, rfl, q.d, far, ru, nu.map (renP ren), rfl, CFz.mono g17, rk, fun r4 G8 g8 R4 => ?_⟩
        have g18 := g17.trans g8
        refine ⟨_, rfl, q.d, far, ru, nu.map (renP ren), rfl, CFz.mono g18, nk', fun o4 so4 G9 g9 of4 S4 => ?_⟩
        obtain rfl : so4 = so3.map (renP ren) := of4.uniq nk'.nd of'
        have g19 := g18.trans g9
        obtain ⟨lk3, ech3⟩ := ren_chance (ru := ru) injS ok.kin lk
        refine ⟨_, rfl, _, rfl, r4, o4, th, ru, _, _, renK ren (.inl a), n, (by first | rfl | (rw [hren]; rfl)), ⟨R4.mono g9, S4, Thz.mono g19.tk, rk, of'.ok nk', ren_stok injS sk (of'.ok nk') ok⟩, lk3, fun p3 G10 g10 hp3 => ?_⟩
        rw [ech3] at hp3
        refine ⟨_, rfl, _, _, .tup (SqT.of hp3) (.cons (.int _) (.cons (.int _) .nil)), .tup (SqT.of ((((g57.trans g8).trans g9).trans g10) _ _ hp1)) (.cons (.int _) (.cons (.int _) .nil)), by simp [PyData.plain, PyData.plainAll], by simp [PyData.plain, PyData.plainAll], by simp [PyData.depth, PyData.depthAll], _, rfl, iteFe (by rw [eqv_int2]; rfl) ?_⟩
        exact ⟨_, _, _, rfl, ((((g3.trans g4).trans g5).trans g57).trans g8).trans (g9.trans g10)⟩

      | inr z =>
        refine ⟨_, rfl, _, _, _, _, true, rfl, .ty "str", .base (.str z), kit_ty (by decide +kernel : kitB "str" "str" = some true), _, rfl, iteT ⟨_, rfl, nmd, rfl, .inl ⟨_, .inl (g13 _ _ hnmz)⟩, _, rfl, _, rfl, _, dget_dn (g13 _ _ hnmz) (by rw [zkeys]; exact hkin z rfl), ?_⟩⟩

        -- due
        refine ⟨_, rfl, rl, _, _, .ref r0, rfl, rfl, SqL.of (g13 _ _ hrl), atI_nat (j := 0) rfl, ?_⟩
        refine ⟨_, rfl, q.d, c, ru, nu, rfl, CAz.mono g13, nk, fun o2 so2 G4 g4 of2 S2 => ?_⟩
        obtain rfl : so2 = so1 := of2.uniq nk.nd of1
        have g14 := g13.trans g4
        refine ⟨_, rfl, _, rfl, r0, o2, t, ru, so2, st, (.inr z), n, rfl, ⟨R0z.mono g14, S2, St1.mono (sZ.trans g14).tk, rk, sk, ok⟩, lk, fun p1 G5 g5 hp1 => ?_⟩
        have g15 := g14.trans g5
        -- the last rule
        refine ⟨_, rfl, _, rfl, ?_⟩
        refine ⟨rl, _, _, .ref r0, rfl, rfl, SqL.of (g15 _ _ hrl), atI_last [] _, ?_⟩
        refine ⟨_, rfl, q.d, c, ru, nu, rfl, CAz.mono g15, nk, fun o3 so3 G6 g6 of3 S3 => ?_⟩
        obtain rfl : so3 = so2 := of3.uniq nk.nd of2
        have g16 := g15.trans g6
        obtain ⟨n2, lk2, ech⟩ := alk (.inr z) n lk
        refine ⟨_, rfl, _, rfl, r0, o3, t, ru, so3, st, (.inr z), n2, rfl, ⟨RLz.mono g16, S3, St1.mono (sZ.trans g16).tk, rkL, sk, okL⟩, lk2, fun p2 G7 g7 hp2 => ?_⟩
        rw [ech] at hp2
        have g17 := g16.trans g7
        have g57 := g6.trans g7
        refine ⟨_, rfl, _, _, .tup (SqT.of hp2) (.cons (.int _) (.cons (.int _) .nil)), .tup (SqT.of (g57 _ _ hp1)) (.cons (.int _) (.cons (.int _) .nil)), by simp [PyData.plain, PyData.plainAll], by simp [PyData.plain, PyData.plainAll], by simp [PyData.depth, PyData.depthAll], _, rfl, iteFe (by rw [eqv_int2]; rfl) ?_⟩
        -- the case of other names
        refine ⟨_, rfl, q.d, far, ru, nu.map (renP ren), rfl, CFz.mono g17, rk, fun r4 G8 g8 R4 => ?_⟩
        have g18 := g17.trans g8
        refine ⟨_, rfl, q.d, far, ru, nu.map (renP ren), rfl, CFz.mono g18, nk', fun o4 so4 G9 g9 of4 S4 => ?_⟩
        obtain rfl : so4 = so3.map (renP ren) := of4.uniq nk'.nd of'
        have g19 := g18.trans g9
        obtain ⟨lk3, ech3⟩ := ren_chance (ru := ru) injS ok.kin lk
        refine ⟨_, rfl, _, rfl, r4, o4, th, ru, _, _, renK ren (.inr z), n, (by first | rfl | (rw [hren]; rfl)), ⟨R4.mono g9, S4, Thz.mono g19.tk, rk, of'.ok nk', ren_stok injS sk (of'.ok nk') ok⟩, lk3, fun p3 G10 g10 hp3 => ?_⟩
        rw [ech3] at hp3
        refine ⟨_, rfl, _, _, .tup (SqT.of hp3) (.cons (.int _) (.cons (.int _) .nil)), .tup (SqT.of ((((g57.trans g8).trans g9).trans g10) _ _ hp1)) (.cons (.int _) (.cons (.int _) .nil)), by simp [PyData.plain, PyData.plainAll], by simp [PyData.plain, PyData.plainAll], by simp [PyData.depth, PyData.depthAll], _, rfl, iteFe (by rw [eqv_int2]; rfl) ?_⟩
        exact ⟨_, _, _, rfl, ((((g3.trans g4).trans g5).trans g57).trans g8).trans (g9.trans g10)⟩
    · rintro σ G ⟨v14, v15, v16, rfl, g3⟩
      exact h _ (sA.same ((sZ.trans g12).trans g3))

end
end U

set_option Elab.async false
set_option linter.all false
set_option maxRecDepth 100000
set_option maxHeartbeats 4000000
/-! The law. -/
namespace U
open PySem PySem.Spec PyProof.Rows L2
section
variable {P : Program} {w : World} {K : PySem.W.Frag} {mg : Str → Option Value} {base : Heap}
theorem sqL_same {K : PySem.W.Frag} {H H' : Hp} {a : Addr} {xs : List V} (k : Same H H') (h : SqL K H a xs) : SqL K H' a xs := by
  rcases h with h | h
  · rcases h with h | ⟨o, h⟩
    · exact .inl (.inl (k _ _ h))
    · exact .inl (.inr ⟨o, k _ _ h⟩)
  · exact .inr h
def absI (i : Int) : Int := if i < 0 then -i else i
def bigI (i : Int) : Bool := decide ((10 : Int) ^ (18 : Int).toNat ≤ i)
def bigs (ns : List Int) : List Int := (ns.map absI).filter bigI
theorem absI_pos (i : Int) : 0 ≤ absI i := by unfold absI; split <;> omega
theorem bigs_pos {ns : List Int} : ∀ x ∈ bigs ns, 0 ≤ x := fun x h => by
  obtain ⟨n, _, rfl⟩ := List.mem_map.mp (List.mem_filter.mp h).1
  exact absI_pos n
theorem bigs_len (ns : List Int) : (bigs ns).length ≤ ns.length := by
  unfold bigs
  have := List.length_filter_le bigI (ns.map absI)
  rw [List.length_map] at this
  exact this
theorem bigs_snoc {ns : List Int} {i : Nat} {n : Int} (h : ns[i]? = some n) : bigs (ns.take (i + 1)) = if bigI (absI n) then bigs (ns.take i) ++ [absI n] else bigs (ns.take i) := by
  unfold bigs
  rw [take_snoc h, List.map_append, List.filter_append]
  by_cases q : bigI (absI n)
  · simp [q]
  · simp [q]
def pr_begin (K : PySem.W.Frag) : Pr := fun vs H Q => ∃ (a : Addr) (ns : List Int), vs = [.ref a] ∧ SqL K H a (ns.map V.int) ∧ ns.length ≤ 63 ∧ ∀ (q : Dq) H', Same H H' → DrAt H' q → H q.d = none → H q.l = none → Q (.ref q.d) H'
theorem sc_l_begin : FnScope ["_law_script", "_law_large", "_law_cell"] ["_law_script"] (defScope s_l_begin) := ⟨rfl, rfl, rfl, by decide +kernel, rfl, by decide +kernel, by decide +kernel⟩
theorem ok_l_begin (T : T K mg) : Ok P w K mg base 1 (He.ga K "_law_begin") (pr_begin K) := by
  refine Dn.ok T.l_begin sc_l_begin (fun _ _ _ _ _ _ us hl => match us, hl with | [_], _ => rfl) (fun vs H Q h => ?_) fun cdv A outer s H vs Q E hr h => ?_
  · obtain ⟨_, _, rfl, _⟩ := h
    rfl
  obtain ⟨a, ns, rfl, Sa, l63, h⟩ := h
  refine ⟨_, (pss_cons (ps_setLc (i := 1) (own := [("_law_cell", 2)]) (g := gName 2) rfl sc_l_begin.nd rfl rfl (sw_true rfl rfl rfl (by decide +kernel)) (piL (K := K) rfl (pv 0)) (blkOk_by (N := ["_law_script", "_law_large", "_law_cell"]) (sc := defScope s_l_begin) (by decide +kernel)) (fun _ _ _ _ _ => pg_name (i := 2) sc_l_begin.nd rfl (by first | exact .inl rfl | exact .inr rfl)) (fun _ _ _ _ _ => (pts_one (pt_cmpR op_ge (pe_callB call_abs rfl T.z_abs b_abs (pa_cons (pv 2) pa_nil)) (pe_op op_pow pe_int pe_int) (nomark _)))) (fun _ _ _ _ _ => (pe_callB call_abs rfl T.z_abs b_abs (pa_cons (pv 2) pa_nil)))) (pss_one (ps_ret (pe_disp (pps_cons pe_str (pv 1) (pps_cons pe_str (pe_callTy call_list_of rfl T.z_list b_list (pa_cons (pv 0) pa_nil)) (pps_cons pe_str pe_int (pps_cons pe_str pe_int (pps_cons pe_str pe_int pps_nil))))) (by rfl) (by rfl) (fun z => by cases z) (by decide))))), ?_⟩
  refine ⟨_, rfl, a, rfl, ⟨_, Sa⟩, fun D hD => ?_⟩
  refine lc_go rel_same (walk_list (xs := ns.map V.int)) hD (sms _) (fun i => bigs (ns.take i)) (fun _ v n => v = .int n) rfl (fun H8 s8 => sqL_same s8 Sa) ?_ ?_
  · rintro i x H5 H6 hi I ⟨rfl, e2⟩
    rw [List.getElem?_map] at e2
    obtain ⟨n, hn, rfl⟩ := Option.map_eq_some_iff.mp e2
    refine ⟨rfl, ⟨_, rfl, _, rfl, 10, 18, rfl, rfl, ⟨by decide, by decide, by decide⟩, _, _, rfl, rfl, _, rfl, ?_⟩⟩
    have hi63 : i < 1000 := by
      have := (List.getElem?_eq_some_iff.mp hn).1
      omega
    by_cases q0 : bigI (absI n) = true
    · refine iteTe q0 ⟨_, rfl, _, rfl, I.step rel_same hD tkInt hi63 (sms _) (z := absI n) ?_ rfl⟩
      rw [bigs_snoc hn, if_pos q0]
    · refine iteFe (by cases e : bigI (absI n) with | true => exact absurd e q0 | false => exact e) (I.skip rel_same hD tkInt (sms _) ?_)
      rw [bigs_snoc hn, if_neg q0]
  · intro us H5 h5 s5 p5
    rw [List.length_map, List.take_length] at p5
    have eus : us = (bigs ns).map V.int := paired_eq p5
    subst eus
    refine fun p hp => ⟨_, rfl, _, rfl, a, ns.map V.int, rfl, .inl (sqL_same (s5.trans ((sms H5).up hp)) Sa), fun l hl => ?_⟩
    have npl : p ≠ l := (ne_of_none upd_same hl)
    have npD : p ≠ D := fun z => by rw [z, h5] at hp; cases hp
    have nlD : l ≠ D := fun z => by rw [z, upd_ne (Ne.symm npD), h5] at hl; cases hl
    refine ⟨by rw [upd_ne npl]; exact upd_same, drK D l 0 0 7, rfl, by show 5 ≤ 15; decide, ?_⟩
    have hp0 : H p = none := s5.free hp
    have sF : Same H (upd (upd (upd H5 p (.dK [])) l (.lst (ns.map V.int))) p (.dK (mergeK [] (drK D l 0 0 7)))) := fun b o e => by
      rw [upd_ne (ne_of_none e hp0)]
      exact ((s5.up hp).up hl) b o e
    refine h ⟨p, D, l⟩ _ sF ⟨bigs ns, ns, 0, 0, 7, by rw [upd_same]; rfl, ?_, ?_, by decide, by decide, by decide, bigs_pos, l63, nlD⟩ hp0 hD
    · rw [upd_ne (Ne.symm npD), upd_ne (Ne.symm nlD), upd_ne (Ne.symm npD)]
      exact h5
    · rw [upd_ne (Ne.symm npl)]
      exact upd_same
/-! ### the law -/
theorem u65 {k : Nat} {A : Around} (r : Room k A) : A.units + 65 < cLine := by have := r.un; omega
theorem RuAt.sm {H H' : Hp} {q : Dq} (k : Sm q H H') {r : Addr} {ru : Ru} (h : RuAt K H r ru) : RuAt K H' r ru := by
  obtain ⟨dx, wa, sa, h1, h2, h3⟩ := h
  obtain ⟨lg, cs, x, t, m, e1, e2, _⟩ := k.d1
  exact ⟨dx, wa, sa, k.kp _ _ h1 (fun z => by rw [z, e1] at h1; cases h1) (fun z => by rw [z, e2] at h1; cases h1), k.tk _ _ h2, k.tk _ _ h3⟩
theorem SoAt.sm {H H' : Hp} {q : Dq} (k : Sm q H H') {o : Addr} {so : So} (h : SoAt K H o so) : SoAt K H' o so := by
  obtain ⟨dx, d, h1, h2⟩ := h
  obtain ⟨lg, cs, x, t, m, e1, e2, _⟩ := k.d1
  refine ⟨dx, d, k.kp _ _ h1 (fun z => by rw [z, e1] at h1; cases h1) (fun z => by rw [z, e2] at h1; cases h1), k.kp _ _ h2 (fun z => ?_) (fun z => by rw [z, e2] at h2; cases h2)⟩
  rw [z, e1] at h2
  have h3 := HO.dK.inj (Option.some.inj h2)
  cases so with
  | nil => simp [drK, DI, ks] at h3
  | cons a b => simp [drK, DI, ks] at h3
theorem Arg.sm {H H' : Hp} {q : Dq} (k : Sm q H H') {r o t : Addr} {ru : Ru} {so : So} {st : Stn} (h : Arg K H r o t ru so st) : Arg K H' r o t ru so st :=
  ⟨h.R.sm k, h.S.sm k, h.St.mono k.tk, h.ro, h.sk, h.ok⟩
theorem Arg2.sm {H H' : Hp} {q : Dq} (k : Sm q H H') {r o : Addr} {ru : Ru} {so : So} (h : Arg2 K H r o ru so) : Arg2 K H' r o ru so :=
  ⟨h.R.sm k, h.S.sm k, h.ro, h.sk⟩
theorem slL_of {H : Hp} {a : Addr} {xs : List V} {lo hi : Option Int} {Q : VK} (h : H a = some (.lst xs)) (q : ∀ p, H p = none → Q (.ref p) (upd H p (.lst (cutV xs lo hi)))) : rSlL K (.ref a) lo hi H Q := ⟨a, xs, rfl, SqL.of h, q⟩
def pr_law (K : PySem.W.Frag) : Pr := fun vs H Q => ∃ (a : Addr) (ns : List Int), vs = [.ref a] ∧ SqL K H a (ns.map V.int) ∧ ns.length ≤ 63 ∧ ∀ H', Q (.bl true) H'
theorem sc_q_law : FnScope ["_law_script", "_law_draw", "_law_turn", "_law_case", "_law_here", "_law_rule", "_law_songs", "_law_standing", "_law_every", "_law_place", "_law_course", "_law_end"] ["_law_script"] (defScope s_q_law) := ⟨rfl, rfl, rfl, by decide +kernel, rfl, by decide +kernel, by decide +kernel⟩
theorem ok_q_law (T : T K mg) {fd : FuncData} (F : FunD K "law" "law" (defArgs s_q_law) (defBody s_q_law) (defScope s_q_law) [] [] (He.ga K "law") fd) : FnOk P w K mg base CX0 10 (He.ga K "law") fd ["_law_script"] (pr_law K).sp := by
  refine okD F sc_q_law (fun vs H Q h => ?_) fun cdv A outer s H vs Q E hr h => ?_
  · obtain ⟨_, _, rfl, _⟩ := h
    rfl
  obtain ⟨a, ns, rfl, Sa, l63, h⟩ := h
  refine ⟨_, (pss_cons (ps_set (i := 1) sc_q_law.nd rfl (by first | exact .inl rfl | exact .inr rfl) (pe_cal (ok_l_begin T) (hr.mono (by decide)) rfl T.l_begin (pa_cons (pv 0) pa_nil))) (pss_cons (ps_for PassesOwn.never rfl (pi_range1 rfl T.z_range (pa_cons (pe_op op_add pe_int (pe_callB (call_min2 rfl) rfl T.z_min b_min (pa_cons (pe_callB (lenK (K := K) rfl) rfl T.z_len b_len (pa_cons (pv 0) pa_nil)) (pa_cons pe_int pa_nil)))) pa_nil)) (pg_name (i := 2) sc_q_law.nd rfl (by first | exact .inl rfl | exact .inr rfl)) (pss_cons (ps_set (i := 3) sc_q_law.nd rfl (by first | exact .inl rfl | exact .inr rfl) (pe_cal (ok_l_drawn_case T) (hr.mono (by decide)) rfl T.l_drawn_case (pa_cons (pv 1) (pa_cons pe_int (pa_cons pe_int (pa_cons (pe_cal (ok_l_pick T) (hr.mono (by decide)) rfl T.l_pick (pa_cons (pv 1) (pa_cons (pe_lst (pa_cons pe_int (pa_cons pe_int (pa_cons pe_int pa_nil)))) pa_nil))) pa_nil)))))) (pss_cons (ps_asg (pe_tup (pa_cons (pe_cal (ok_l_rule_of T) (hr.mono (by decide)) rfl T.l_rule_of (pa_cons (pv 3) pa_nil)) (pa_cons (pe_cal (ok_l_songs_in T) (hr.mono (by decide)) rfl T.l_songs_in (pa_cons (pv 3) pa_nil)) pa_nil))) (pg_tup rfl (pgs_cons (pg_name (i := 5) sc_q_law.nd rfl (by first | exact .inl rfl | exact .inr rfl)) (pgs_cons (pg_name (i := 6) sc_q_law.nd rfl (by first | exact .inl rfl | exact .inr rfl)) pgs_nil)))) (pss_cons (ps_par (i := 7) (j := 8) rfl sc_q_law.nd rfl rfl (by decide) rfl rfl (pa_cons (pe_cal (ok_l_any_standing T) (hr.mono (by decide)) rfl T.l_any_standing (pa_cons (pv 1) (pa_cons (pv 3) pa_nil))) (pa_cons (pe_cal (ok_standings_of T) (hr.mono (by decide)) rfl T.standings_of (pa_cons (pv 5) (pa_cons (pv 6) pa_nil))) pa_nil)) (by rfl)) (pss_cons (ps_if (PW.pt (pw_or (pt_not (pt_val (pe_cal (ok_l_sums_right T) (hr.mono (by decide)) rfl T.l_sums_right (pa_cons (pv 5) (pa_cons (pv 6) (pa_cons (pv 7) pa_nil)))))) (pw_or1 (pt_not (pt_val (pe_cal (ok_l_named_right T) (hr.mono (by decide)) rfl T.l_named_right (pa_cons (pv 1) (pa_cons (pv 3) (pa_cons (pv 7) pa_nil))))))))) (pss_one (ps_ret pe_bl)) pss_nil) (pss_cons (ps_if (pt_not (pt_val (pe_cal (ok_l_bars_right T) (hr.mono (by decide)) rfl T.l_bars_right (pa_cons (pv 5) (pa_cons (pv 6) (pa_cons (pv 7) pa_nil)))))) (pss_one (ps_ret pe_bl)) pss_nil) (pss_cons (ps_for PassesOwn.never rfl (piL (K := K) rfl (pe_slice (slL (K := K) rfl) (pe_cal (ok_l_mixed T) (hr.mono (by decide)) rfl T.l_mixed (pa_cons (pv 1) (pa_cons (pv 8) pa_nil))) po_none (po_some pe_int))) (pg_name (i := 4) sc_q_law.nd rfl (by first | exact .inl rfl | exact .inr rfl)) (pss_one (ps_for PassesOwn.never rfl (piL (K := K) rfl (pe_lc (own := [("_law_place", 9)]) (g := gName 9) rfl sc_q_law.nd  (piL (K := K) rfl (pe_cal (ok_places T) (hr.mono (by decide)) rfl T.places (pa_cons (pv 5) (pa_cons (pv 6) (pa_cons (pv 4) pa_nil))))) (blkOk_by (N := ["_law_script", "_law_draw", "_law_turn", "_law_case", "_law_here", "_law_rule", "_law_songs", "_law_standing", "_law_every", "_law_place", "_law_course", "_law_end"]) (sc := defScope s_q_law) (by decide +kernel)) (fun _ _ _ _ _ => pg_name (i := 9) sc_q_law.nd rfl (by first | exact .inl rfl | exact .inr rfl)) (fun _ _ _ _ _ => (pts_one (pt_val (pe_cal (ok_can_draw T) (hr.mono (by decide)) rfl T.can_draw (pa_cons (pv 5) (pa_cons (pv 6) (pa_cons (pv 4) (pa_cons (pv 9) pa_nil)))))))) (fun _ _ _ _ _ => (pv 9)))) (pg_name (i := 9) sc_q_law.nd rfl (by first | exact .inl rfl | exact .inr rfl)) (pss_one (ps_if (pt_cmpR (op_notInP (K := K) rfl (by exact u65 hr)) (pe_cal (ok_behind T) (hr.mono (by decide)) rfl T.behind (pa_cons (pv 5) (pa_cons (pv 6) (pa_cons (pv 4) (pa_cons (pe_tup (pa_cons (pv 9) (pa_cons (pe_cmpR op_eq (pe_cal (ok_l_take T) (hr.mono (by decide)) rfl T.l_take (pa_cons (pv 1) (pa_cons pe_int pa_nil))) pe_int (nomark _)) pa_nil))) pa_nil))))) (pv 8) (by rfl)) (pss_one (ps_ret pe_bl)) pss_nil))))) (pss_cons (ps_asg (pe_cal (ok_l_walk T) (hr.mono (by decide)) rfl T.l_walk (pa_cons (pv 1) (pa_cons (pv 3) (pa_cons pe_int pa_nil)))) (pg_tup rfl (pgs_cons (pg_name (i := 10) sc_q_law.nd rfl (by first | exact .inl rfl | exact .inr rfl)) (pgs_cons (pg_name (i := 11) sc_q_law.nd rfl (by first | exact .inl rfl | exact .inr rfl)) pgs_nil)))) (pss_one (ps_if (PW.pt (pw_or (pt_cmpR (op_neP (K := K) rfl (by exact hr.units)) (pe_cal (ok_led_to T) (hr.mono (by decide)) rfl T.led_to (pa_cons (pv 5) (pa_cons (pv 6) (pa_cons (pv 10) pa_nil)))) (pv 11) (nomark _)) (pw_or (pt_not (pt_val (pe_cal (ok_is_course T) (hr.mono (by decide)) rfl T.is_course (pa_cons (pv 5) (pa_cons (pv 6) (pa_cons (pe_slice (slL (K := K) rfl) (pv 10) po_none (po_some pe_int)) pa_nil)))))) (pw_or1 (pt_cmpR (op_notInP (K := K) rfl (by exact u65 hr)) (pv 11) (pv 8) (by rfl)))))) (pss_one (ps_ret pe_bl)) pss_nil)))))))))) (pss_one (ps_ret (pe_cal (ok_is_standing T) (hr.mono (by decide)) rfl T.is_standing (pa_cons (pv 5) (pa_cons (pv 6) (pa_cons (pv 11) pa_nil)))))))), ?_⟩
  refine ⟨_, rfl, a, ns, rfl, Sa, l63, fun q H1 s1 DR nqd nql => ?_⟩
  have hlen : (2 + (if (6 : Int) < (ns.length : Int) then 6 else (ns.length : Int))) = ((2 + min ns.length 6 : Nat) : Int) := by
    by_cases z : (6 : Int) < (ns.length : Int)
    · rw [if_pos z]; omega
    · rw [if_neg z]; omega
  refine ⟨_, rfl, _, ns.length, rfl, .inl ⟨_, sqL_same s1 Sa, by simp⟩, _, _, rfl, ?_⟩
  refine ⟨2, _, rfl, rfl, ((2 + min ns.length 6 : Nat) : Int), by rw [← hlen], by omega, by omega, ?_⟩
  refine for_it walk_range (fun i σ H' => ∃ v2 v3 v4 v5 v6 v7 v8 v9 v10 v11, σ = [some (.ref a), some (.ref q.d), v2, v3, v4, v5, v6, v7, v8, v9, v10, v11] ∧ Sm q H1 H' ∧ (0 < i → ∃ r o t ru so st, v5 = some (.ref r) ∧ v6 = some (.ref o) ∧ v11 = some (.ref t) ∧ Arg K H' r o t ru so st))
    ⟨none, none, none, none, none, none, none, none, none, none, rfl, DR.sm (sms _), fun z => absurd z (by decide)⟩ (fun _ _ _ _ _ => trivial) ?_ ?_
  · rintro i x σ H2 H3 hi ⟨v2, v3, v4, v5, v6, v7, v8, v9, v10, v11, rfl, sA, -⟩ ⟨rfl, rfl⟩
    refine ⟨_, rfl, _, rfl, by show 3 ≤ sizeLine; decide, fun lp hlp => ?_⟩
    have sA2 := sA.up hlp (o := .lst [.int 1, .int 2, .int 4])
    refine ⟨q, sA2.d2, .inl ⟨lp, _, rfl, upd_same, (sA.d2.sm (sms _)).ne hlp |>.2, by show 0 < 3; decide, by show 3 < 1000; decide, fun v H4 sP hv => ?_⟩⟩
    have hmo : ∃ mo : Int, v = .int mo ∧ 0 ≤ mo ∧ mo ≤ 8 := by
      simp only [List.mem_cons, List.not_mem_nil, or_false] at hv
      rcases hv with rfl | rfl | rfl <;> exact ⟨_, rfl, by decide, by decide⟩
    obtain ⟨mo, rfl, m0, m8⟩ := hmo
    refine ⟨q, mo, rfl, sP.d2, m0, m8, fun c ru nu H5 sC CA rk nkk => ?_⟩
    obtain ⟨nk, -⟩ := nkk
    have sB := (sA2.trans sP).trans sC
    refine ⟨_, rfl, q.d, c, ru, nu, rfl, CA, rk, fun r H6 s6 R6 => ?_⟩
    refine ⟨_, rfl, q.d, c, ru, nu, rfl, CA.mono s6, nk, fun o so H7 s7 of7 S7 => ?_⟩
    have sk := of7.ok nk
    refine ⟨by show 2 ≤ sizeLine; decide, fun tt htt => ⟨tt, _, rfl, SqT.of upd_same, rfl, _, _, rfl, _, _, rfl, rfl, ?_⟩⟩
    have s58 := (s6.trans s7).up htt (o := .tup [.ref r, .ref o])
    have s78 := (sms H7).up htt (o := .tup [.ref r, .ref o])
    generalize hH8 : upd H7 tt (.tup [.ref r, .ref o]) = H8 at *
    have A8 : Arg2 K H8 r o ru so := ⟨(R6.mono s7).mono s78, S7.mono s78, rk, sk⟩
    have CA8 := CA.mono s58
    have sB8 := sB.same s58
    refine ⟨_, rfl, _, rfl, q, c, ru, nu, rfl, sB8.d2, CA8, rk, nk, fun t st H9 s9 St9 ok9 => ?_⟩
    have ok := StOk.of nk.nd of7 ok9
    refine ⟨_, rfl, _, rfl, r, o, ru, so, rfl, A8.sm s9, fun ev l ts H10 s10 hev hsts RL hl => ?_⟩
    have sB10 := (sB8.trans s9).same s10
    have CA10 := (CA8.sm s9).mono s10
    have A10 : Arg K H10 r o t ru so st := ⟨((A8.sm s9).mono s10).R, ((A8.sm s9).mono s10).S, St9.mono s10.tk, rk, sk, ok⟩
    refine ⟨_, _, rfl, ?_⟩
    refine ⟨_, rfl, _, rfl, _, rfl, r, o, t, ru, so, st, rfl, A10, fun H11 s11 => ?_⟩
    have l3 := sk.l3
    have Dp1 : (stD st).depth ≤ 60 := by have := stD_depth st; omega
    refine ⟨_, rfl, iteFe rfl ⟨_, rfl, _, rfl, _, rfl, q, c, t, ru, nu, so, st, rfl, (sB10.same s11).d2, CA10.mono s11, rk, nk, of7, A10.St.mono s11.tk, ok, fun H12 s12 => ⟨_, rfl, iteFe rfl ?_⟩⟩⟩
    have sE12 : Sm q H10 H12 := (sB10.d2.sm s11).trans s12
    have nev : ev ≠ q.d ∧ ev ≠ q.l := by
      obtain ⟨lg, cs, x, tu, m, e1, e2, _⟩ := sB10.d2
      refine ⟨fun z => by (rw [z, e1] at hev; cases hev), fun z => ?_⟩
      rw [z, e2] at hev
      have h3 := HO.lst.inj (Option.some.inj hev)
      cases hsts with
      | nil => exact absurd RL.first (by simp)
      | cons h4 h5 =>
        cases lg with
        | nil => simp at h3
        | cons b b2 => simp at h3
    have hev12 := sE12.kp _ _ hev nev.1 nev.2
    refine ⟨_, rfl, _, rfl, _, rfl, r, o, t, ru, so, st, rfl, A10.sm sE12, fun H13 s13 => ⟨_, rfl, iteFe rfl ?_⟩⟩
    have sE13 := sE12.same s13
    have hev13 := s13 _ _ hev12
    have hsts13 := hsts.mono sE13.tk
    refine ⟨_, rfl, _, rfl, q, ev, ts, l, rfl, sE13.d2, hev13, hsts13, hl, fun p ts2 l2 H14 s14 hpn hp hsts2 hmem => ⟨4, rfl, slL_of hp fun p2 hp2 => ?_⟩⟩
    have ecut : cutV (ts2.map V.ref) none (some 4) = (ts2.take 4).map V.ref := by rw [show (4 : Int) = ((4 : Nat) : Int) from rfl, cutV_to, List.map_take]
    rw [ecut]
    refine ⟨p2, rfl, ⟨_, SqL.of upd_same⟩, ?_⟩
    have sE15 := (sE13.trans s14).up hp2 (o := .lst ((ts2.take 4).map V.ref))
    have n15 := (sE13.trans s14).ne2 hp2
    have hp15 : (upd H14 p2 (.lst ((ts2.take 4).map V.ref))) p2 = some (.lst ((ts2.take 4).map V.ref)) := upd_same
    have hsts15 : StsAt (upd H14 p2 (.lst ((ts2.take 4).map V.ref))) ts2 l2 := hsts2.mono (Tk.new hp2)
    generalize hH15 : upd H14 p2 (.lst ((ts2.take 4).map V.ref)) = H15 at *
    refine for_it (walk_list (xs := (ts2.take 4).map V.ref)) (fun i' σ H' => ∃ v4 v9, σ = [some (.ref a), some (.ref q.d), some (.int (0 + (i : Int))), some (.ref c), v4, some (.ref r), some (.ref o), some (.ref t), some (.ref ev), v9, v10, v11] ∧ Sm q H15 H') ⟨_, _, rfl, sE15.d2.sm (sms _)⟩ (fun i' σ H' _ ⟨_, _, _, e⟩ => SqL.of (e.kp _ _ hp15 n15.1 n15.2)) ?_ ?_
    · rintro i' x σ H17 H16 hi' ⟨v4, v9, rfl, s16⟩ ⟨rfl, e2⟩
      rw [List.getElem?_map] at e2
      obtain ⟨t', ht', rfl⟩ := Option.map_eq_some_iff.mp e2
      have ht2 : ts2[i']? = some t' := by
        rw [List.getElem?_take] at ht'
        split at ht'
        · exact ht'
        · cases ht'
      obtain ⟨st', hst', St'⟩ := paired_at hsts15 ht2
      have hin : st' ∈ l := hmem _ (List.mem_of_getElem? hst')
      have ok' := RL.ok _ hin
      have sE16 := sE15.trans s16
      have A16 : Arg K H16 r o t' ru so st' := ⟨A10.R.sm sE16, A10.S.sm sE16, St'.mono s16.tk, rk, sk, ok'⟩
      have pl6 := pls_len (ru := ru) A16.len l3
      refine ⟨_, rfl, _, rfl, _, rfl, r, o, t', ru, so, st', rfl, A16, fun pl H18 s18 hpln hpl => ⟨pl, rfl, ⟨_, SqL.of hpl⟩, fun D hD => ?_⟩⟩
      refine lc_go rel_same (walk_list (xs := (pls ru so st').map kV)) hD (sms _) (fun j => ((pls ru so st').take j).filter (canB ru so st')) (fun _ v k => v = kV k) rfl (fun H8 s8 => SqL.of (s8 _ _ hpl)) ?_ ?_
      · rintro j x2 H19 H20 hj I ⟨rfl, e3⟩
        rw [List.getElem?_map] at e3
        obtain ⟨k, hk, rfl⟩ := Option.map_eq_some_iff.mp e3
        rw [List.length_map] at hj
        obtain ⟨n, en⟩ := look_pls (List.mem_of_getElem? hk)
        have ecb : canB ru so st' k = decide (0 < n) := by unfold canB; rw [en]; rfl
        refine ⟨rfl, _, rfl, _, rfl, _, rfl, _, rfl, r, o, t', ru, so, st', k, n, rfl, A16.mono (s18.trans I.rl), en, fun H21 s21 => ⟨_, rfl, ?_⟩⟩
        by_cases q0 : 0 < n
        · refine iteTe (decide_eq_true q0) ⟨_, rfl, I.step rel_same hD tkKey (by omega) s21 (z := k) ?_ rfl⟩
          rw [take_snoc hk, List.filter_append]
          simp [ecb, q0]
        · refine iteFe (decide_eq_false q0) (I.skip rel_same hD tkKey s21 ?_)
          rw [take_snoc hk, List.filter_append]
          simp [ecb, q0]
      · intro us5 H21 h21 s21 p21
        rw [List.take_of_length_le (by simp)] at p21
        have e5 := paired_eq p21
        subst e5
        have sE21 := sE16.same (s18.trans s21)
        have A21 := A16.mono (s18.trans s21)
        have nD := (sE16.same s18).ne2 hD
        refine ⟨D, rfl, ⟨_, SqL.of h21⟩, ?_⟩
        refine for_it (walk_list (xs := ((pls ru so st').filter (canB ru so st')).map kV)) (fun j σ H' => ∃ v9, σ = [some (.ref a), some (.ref q.d), some (.int (0 + (i : Int))), some (.ref c), some (.ref t'), some (.ref r), some (.ref o), some (.ref t), some (.ref ev), v9, v10, v11] ∧ Sm q H21 H') ⟨_, rfl, sE21.d2.sm (sms _)⟩ (fun j σ H' _ ⟨_, _, e⟩ => SqL.of (e.kp _ _ h21 nD.1 nD.2)) ?_ ?_
        · rintro j x2 σ H23 H22 hj ⟨v9, rfl, s22⟩ ⟨rfl, e3⟩
          rw [List.getElem?_map] at e3
          obtain ⟨k, hk, rfl⟩ := Option.map_eq_some_iff.mp e3
          have can : Can ru so st' k := canB_iff.mp (List.mem_filter.mp (List.mem_of_getElem? hk)).2
          have sE22 := sE21.trans s22
          refine ⟨_, rfl, _, rfl, _, rfl, _, rfl, _, rfl, q, 2, rfl, s22.d2, by decide, by decide, fun b H24 s24 b0 b1 => ⟨rfl, by show 2 ≤ sizeLine; decide, fun p3 hp3 => ?_⟩⟩
          have sE24 := (sE22.trans s24).up hp3 (o := .tup [kV k, .bl (decide (V.int b = V.int 0))])
          have A24 : Arg K (upd H24 p3 (.tup [kV k, .bl (decide (V.int b = V.int 0))])) r o t' ru so st' := ((A21.sm s22).sm s24).mono ((sms H24).up hp3)
          refine ⟨r, o, t', ru, so, st', _, (k, decide (V.int b = V.int 0)), rfl, A24, ⟨p3, rfl, upd_same⟩, can.pl, fun t2 H25 s25 St2 => ?_⟩
          have sE25 := sE24.same s25
          have hin2 : drawn st' k (decide (V.int b = V.int 0)) ∈ l := RL.more _ hin k _ can
          refine ⟨_, rfl, stD (drawn st' k (decide (V.int b = V.int 0))), l.map stD, St2.dp, .lst (SqL.of (sE25.kp _ _ hev nev.1 nev.2)) (sts_dp (hsts.mono sE25.tk)), stD_plain _, stDs_plain _, by have := stD_depth (drawn st' k (decide (V.int b = V.int 0))); omega, _, rfl, iteFe ?_ ?_⟩
          · rw [any_st, decide_eq_true hin2]
            rfl
          · exact ⟨_, rfl, s22.trans (((s24).up hp3).same s25)⟩
        · rintro σ H22 ⟨v9, rfl, s22⟩
          exact ⟨_, _, rfl, (s16.same (s18.trans s21)).trans s22⟩
    · rintro σ H16 ⟨v4, v9, rfl, s16⟩
      have sE16 := sE15.trans s16
      refine ⟨_, rfl, _, rfl, q, c, ru, nu, so, rfl, s16.d2, CA10.sm sE16, rk, nk, of7, fun p3 l4 us cs t3 H17 s17 hp3 hl4 hl4n pus hcl gd St3 => ⟨p3, _, rfl, SqT.of hp3, rfl, _, _, rfl, _, _, rfl, rfl, ?_⟩⟩
      have sE17 := sE16.trans s17
      have A17 : Arg2 K H17 r o ru so := ⟨A10.R.sm sE17, A10.S.sm sE17, rk, sk⟩
      refine ⟨_, rfl, _, rfl, _, rfl, r, o, l4, ru, so, us, cs, rfl, A17, hl4, pus, by omega, gd, fun t4 H18 s18 St4 => ?_⟩
      have okr := run_ok sk (fst0_ok rk sk) gd
      have hinr : run (fst0 ru) cs ∈ l := RL.run RL.first gd
      have dep := stD_depth (run (fst0 ru) cs)
      refine ⟨_, rfl, stD (run (fst0 ru) cs), stD (run (fst0 ru) cs), St4.dp, (St3.mono s18.tk).dp, stD_plain _, stD_plain _, by omega, _, rfl, iteFe (by rw [stD_eqv, decide_eq_true rfl]; rfl) ?_⟩
      refine ⟨_, rfl, _, rfl, _, rfl, 3, rfl, slL_of (s18 _ _ hl4) fun p5 hp5 => ?_⟩
      have ecut2 : cutV us none (some 3) = us.take 3 := cutV_to (n := 3)
      rw [ecut2]
      have s19 := s18.up hp5 (o := .lst (us.take 3))
      refine ⟨r, o, p5, ru, so, us.take 3, cs.take 3, rfl, A17.mono s19, upd_same, paired_take 3 (Paired.mapP pus fun _ _ z => z.mono s19.tk), by rw [List.length_take]; omega, good_take 3 gd, fun H20 s20 => ⟨_, rfl, iteFe rfl ?_⟩⟩
      have sE20 := sE17.same (s19.trans s20)
      have St20 := St3.mono (s19.trans s20).tk
      refine ⟨_, rfl, _, rfl, stD (run (fst0 ru) cs), l.map stD, St20.dp, .lst (SqL.of (sE20.kp _ _ hev nev.1 nev.2)) (sts_dp (hsts.mono sE20.tk)), stD_plain _, stDs_plain _, by omega, _, rfl, iteFe ?_ ?_⟩
      · rw [any_st, decide_eq_true hinr]
        rfl
      · exact ⟨_, _, _, _, _, _, _, _, _, _, rfl, sA2.trans ((sP.trans sC).same s58 |>.trans s9 |>.same s10 |>.trans sE20), fun _ => ⟨r, o, t3, ru, so, _, rfl, rfl, rfl, ⟨A10.R.sm sE20, A10.S.sm sE20, St20, rk, sk, okr⟩⟩⟩
  · rintro σ H2 ⟨v2, v3, v4, v5, v6, v7, v8, v9, v10, v11, rfl, sA, hz⟩
    obtain ⟨r, o, t, ru, so, st, rfl, rfl, rfl, Ar⟩ := hz (by rw [Int.toNat_natCast]; omega)
    exact ⟨_, rfl, _, rfl, _, rfl, r, o, t, ru, so, st, rfl, Ar, fun H3 _ => h H3⟩
end
end U

set_option Elab.async false
set_option linter.all false
set_option maxRecDepth 100000
set_option maxHeartbeats 0
/-! The join. -/
namespace U
open PySem PySem.Spec PyProof.Rows L2
theorem facts {P : Program} {w : World} {K : PySem.W.Frag} {h : Heap} {mg : Str → Option Value} {f : Addr} (X : K.In h) (G : h.Ns mainGlobals mg) (hfa : mg ("law" : Str) = some (.ref f)) (c : SaysU K) :
    ∃ fd : FuncData, (∀ (s : Shared) (v : Value), BindsTo s fd ⟨[v], []⟩ [("_law_script", v)]) ∧ ∀ base : Heap, K.In base → base.Ns mainGlobals mg → FnOk P w K mg base CX0 10 f fd ["_law_script"] (pr_law K).sp := by
  have t := T.of X G c
  have e := hfa.symm.trans t.q_law.gl
  cases e
  obtain ⟨fd, F⟩ := t.q_law.fn
  have b := FunD.bindsA (ps := ["_law_script"]) F fun _ _ _ _ _ _ us hl => match us, hl with | [_], _ => rfl
  exact ⟨fd, fun s v => b s [v] rfl, fun base _ _ => ok_q_law t F⟩
end U
open PySem PySem.W PySem.Calls PyProof.Rows
theorem PySem.Challenge.cw_unheard_k12_whole_chances_and_draws_holds : PySem.Challenge.rw_unheard_k12_whole_chances_and_draws.Holds := by
  w_on; o_law
  refine HandSHeadRun.head_any (r := OpenLaw.row PySem.Challenge.rw_unheard_k12_whole_chances_and_draws) (q := view (OpenLaw.row PySem.Challenge.rw_unheard_k12_whole_chances_and_draws).prog [70]) (H := U.hk) (ob := U.obT) (M := 8000) (loose := U.otherNames) (d := HandSHeadRun.topDef (OpenLaw.row PySem.Challenge.rw_unheard_k12_whole_chances_and_draws).prog 70) (kwd := []) U.obT_eq
    (by kernel_rfl) (fun s => by kernel_rfl) U.topRan (by kernel_rfl) (by kernel_rfl) (by kernel_rfl) (by rfl) (by first | assumption | decide +kernel) (by decide +kernel) ⟨rfl, rfl, rfl, rfl, rfl, by decide +kernel⟩ ?hw ?hc
  case hw => w_witness2
  case hc =>
    refine L2.walk_ofE (l := PySem.Challenge.rw_unheard_k12_whole_chances_and_draws) (n := 63) (k := 10) (x := "_law_script") (CX := L2.CX0) rfl (by decide) (by kernel_rfl) ⟨rfl, by decide, by decide⟩ ?F (fun _ _ _ _ z => z)
    intro w mg fa h Y G hmg0
    obtain ⟨K, KX, c⟩ := Y
    have hmg : mg ("law" : PySem.Str) = some (.ref fa) := by
      have e : (HandSHeadRun.topDef (OpenLaw.row PySem.Challenge.rw_unheard_k12_whole_chances_and_draws).prog 70).name = ("law" : PySem.Str) := by kernel_rfl
      rw [← e]
      exact hmg0
    obtain ⟨fd, hb, hF⟩ := U.facts (P := (PySem.Challenge.rw_unheard_k12_whole_chances_and_draws).prog) (w := w) KX G hmg c
    exact ⟨K, fd, (U.pr_law K).sp, KX, hb, fun H a ns hl _ hS => ⟨a, ns, rfl, hS, hl, fun _ => rfl⟩, hF⟩
